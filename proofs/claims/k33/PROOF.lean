import PyProof.Rows.All
import HandS.ForMost
import HandS.ForExc
import HandS.Flow
import HandS.Style
import HandS.Zip
import HandS.TupAny
import HandS.TupMul
import HandS.Wide
import HandS.Defaults
import HandS.Ends
import HandS.HeadEnd
import HandS.IsInst
import HandS.SortInts
import HandS.Deep
import PyProof.SumWalkG
import PyProof.ReprRoads
import PyProof.FitsInt
import HandS.Head0
import HandS.Head1
import HandS.Head2
import HandS.HeadHook1
import HandS.HeadHook2
import Wide.All
import OpenK.AllK
import Wide.FinOn
import KE.KStateDown
import HandS.Base
import HandS.Call
import HandS.More
import HandS.Words
import HandS.WordsExc
import PySem.Challenge.RW_domelights_k33_bars_of_beats
set_option Elab.async false
set_option linter.all false
set_option maxRecDepth 100000
set_option maxHeartbeats 4000000
namespace Q
open PySem PySem.Spec PyProof.Rows L2

abbrev D := PyData
/-- what a slot or an expression holds -/
inductive W where
  | d (x : D)
  | ref (n : Nat)
  | own (xs : List D)
  | ownd (kvs : List (D × D))
  | tw (xs : List W)
  | fn (x : String)
  | scr (xs : List Int)
/-- what the store holds -/
inductive O where
  | lst (xs : List D)
  | dct (kvs : List (D × D))
  | ins (C : String) (fs : List (Str × W))
abbrev EnvQ := List (Option W)
abbrev Sto := List O
inductive R (α : Type) where
  | ok (a : α) (S : Sto)
  | exc (c : String) (S : Sto)
  | stuck
def R.bind {α β : Type} : R α → (α → Sto → R β) → R β
  | .ok a S, f => f a S
  | .exc c S, _ => .exc c S
  | .stuck, _ => .stuck
@[simp] theorem R.bind_ok {α β : Type} (a : α) (S : Sto) (f : α → Sto → R β) : (R.ok a S).bind f = f a S := rfl
@[simp] theorem R.bind_exc {α β : Type} (c : String) (S : Sto) (f : α → Sto → R β) : (R.exc c S : R α).bind f = .exc c S := rfl
@[simp] theorem R.bind_stuck {α β : Type} (f : α → Sto → R β) : (R.stuck : R α).bind f = .stuck := rfl
abbrev CF := String → List W → Sto → R W
abbrev SE := CF → EnvQ → Sto → R W
abbrev ST := CF → EnvQ → Sto → R Bool
abbrev SA := CF → EnvQ → Sto → R (List W)

/-- a list, a tuple that stays: read, and not among what changes (N); or written by the top -/
def RdL (K : PySem.W.Frag) (H : Hp) (N : Addr → Prop) (a : Addr) (xs : List V) : Prop := ¬ N a ∧ H a = some (.lst xs)
def RdT (K : PySem.W.Frag) (H : Hp) (N : Addr → Prop) (a : Addr) (xs : List V) : Prop := (¬ N a ∧ Rd H a (.tup xs)) ∨ SqT K (fun _ => none) a xs
mutual
inductive Dn (K : PySem.W.Frag) (H : Hp) (N : Addr → Prop) : V → D → Prop
  | non : Dn K H N .non .none
  | bl (b : Bool) : Dn K H N (.bl b) (.bool b)
  | int (i : Int) : Dn K H N (.int i) (.int i)
  | str (x : Str) : Dn K H N (.str x) (.str x)
  | lst {a : Addr} {xs : List V} {ds : List D} : RdL K H N a xs → DnAll K H N xs ds → Dn K H N (.ref a) (.list ds)
  | tup {a : Addr} {xs : List V} {ds : List D} : RdT K H N a xs → DnAll K H N xs ds → Dn K H N (.ref a) (.tuple ds)
  | dic {a : Addr} : ¬ N a → H a = some (.dK []) → Dn K H N (.ref a) (.dict [])
inductive DnAll (K : PySem.W.Frag) (H : Hp) (N : Addr → Prop) : List V → List D → Prop
  | nil : DnAll K H N [] []
  | cons {v : V} {vs : List V} {d : D} {ds : List D} : Dn K H N v d → DnAll K H N vs ds → DnAll K H N (v :: vs) (d :: ds)
end
/-- a list that is read, in whatever way it stands (the script) -/
def RdF (K : PySem.W.Frag) (H : Hp) (N : Addr → Prop) (a : Addr) (xs : List V) : Prop := (¬ N a ∧ Rd H a (.lst xs)) ∨ SqL K (fun _ => none) a xs
/-- what was tracked and does not change stays as it is -/
def Keep (N : Addr → Prop) (H : Hp) (N' : Addr → Prop) (H' : Hp) : Prop := ∀ a o, ¬ N a → H a = some o → H' a = some o ∧ ¬ N' a
theorem Keep.refl (N : Addr → Prop) (H : Hp) : Keep N H N H := fun _ _ n e => ⟨e, n⟩
theorem Keep.trans {N N1 N2 : Addr → Prop} {H H1 H2 : Hp} (x : Keep N H N1 H1) (y : Keep N1 H1 N2 H2) : Keep N H N2 H2 := fun a o n e =>
  let z := x a o n e
  y a o z.2 z.1
section
variable {K : PySem.W.Frag} {mg : Str → Option Value} {H H' : Hp} {N N' : Addr → Prop}
theorem sqL_none {a : Addr} {xs : List V} (h : SqL K (fun _ => none) a xs) (H : Hp) : SqL K H a xs := by
  rcases h with (h | ⟨_, h⟩) | h
  · cases h
  · cases h
  · exact .inr h
theorem sqT_none {a : Addr} {xs : List V} (h : SqT K (fun _ => none) a xs) (H : Hp) : SqT K H a xs := by
  rcases h with (h | ⟨_, h⟩) | h
  · cases h
  · cases h
  · exact .inr h
theorem RdL.sq {a : Addr} {xs : List V} (h : RdL K H N a xs) : SqL K H a xs := SqL.of h.2
theorem RdT.sq {a : Addr} {xs : List V} (h : RdT K H N a xs) : SqT K H a xs := h.elim (fun h => .inl h.2) fun h => sqT_none h H
theorem RdT.of_sq {a : Addr} {xs : List V} (h : SqT K H a xs) (n : ¬ N a) : RdT K H N a xs := by
  rcases h with h | h
  · exact .inl ⟨n, h⟩
  · exact .inr (.inr h)
theorem RdL.keep {a : Addr} {xs : List V} (k : Keep N H N' H') (h : RdL K H N a xs) : RdL K H' N' a xs := ⟨(k a _ h.1 h.2).2, (k a _ h.1 h.2).1⟩
theorem RdF.keep {a : Addr} {xs : List V} (k : Keep N H N' H') (h : RdF K H N a xs) : RdF K H' N' a xs := by
  rcases h with ⟨n, h | ⟨o, h⟩⟩ | h
  · obtain ⟨e, n'⟩ := k a _ n h
    exact .inl ⟨n', .inl e⟩
  · obtain ⟨e, n'⟩ := k a _ n h
    exact .inl ⟨n', .inr ⟨o, e⟩⟩
  · exact .inr h
theorem RdF.sq {a : Addr} {xs : List V} (h : RdF K H N a xs) : SqL K H a xs := h.elim (fun h => .inl h.2) fun h => sqL_none h H
theorem RdT.keep {a : Addr} {xs : List V} (k : Keep N H N' H') (h : RdT K H N a xs) : RdT K H' N' a xs := by
  rcases h with ⟨n, h | ⟨o, h⟩⟩ | h
  · obtain ⟨e, n'⟩ := k a _ n h
    exact .inl ⟨n', .inl e⟩
  · obtain ⟨e, n'⟩ := k a _ n h
    exact .inl ⟨n', .inr ⟨o, e⟩⟩
  · exact .inr h
mutual
theorem Dn.keep (k : Keep N H N' H') : ∀ {v : V} {d : D}, Dn K H N v d → Dn K H' N' v d
  | _, _, .non => .non
  | _, _, .bl b => .bl b
  | _, _, .int i => .int i
  | _, _, .str x => .str x
  | _, _, .lst h t => .lst (h.keep k) (DnAll.keep k t)
  | _, _, .tup h t => .tup (h.keep k) (DnAll.keep k t)
  | _, _, .dic n h => .dic (k _ _ n h).2 (k _ _ n h).1
theorem DnAll.keep (k : Keep N H N' H') : ∀ {vs : List V} {ds : List D}, DnAll K H N vs ds → DnAll K H' N' vs ds
  | _, _, .nil => .nil
  | _, _, .cons h t => .cons (Dn.keep k h) (DnAll.keep k t)
end
theorem DnAll.length : ∀ {vs : List V} {ds : List D}, DnAll K H N vs ds → vs.length = ds.length
  | _, _, .nil => rfl
  | _, _, .cons _ t => congrArg (· + 1) (DnAll.length t)
theorem DnAll.get : ∀ {vs : List V} {ds : List D} {i : Nat} {d : D}, DnAll K H N vs ds → ds[i]? = some d → ∃ v, vs[i]? = some v ∧ Dn K H N v d
  | _, _, _, _, .nil, e => by simp at e
  | _, _, 0, _, .cons h _, e => by simp at e; subst e; exact ⟨_, rfl, h⟩
  | _, _, i + 1, d, .cons _ t, e => by
    obtain ⟨v, h1, h2⟩ := DnAll.get (i := i) (d := d) t (by simpa using e)
    exact ⟨v, by simpa using h1, h2⟩
theorem DnAll.get' : ∀ {vs : List V} {ds : List D} {i : Nat} {v : V}, DnAll K H N vs ds → vs[i]? = some v → ∃ d, ds[i]? = some d ∧ Dn K H N v d
  | _, _, _, _, .nil, e => by simp at e
  | _, _, 0, _, .cons h _, e => by simp at e; subst e; exact ⟨_, rfl, h⟩
  | _, _, i + 1, d, .cons _ t, e => by
    obtain ⟨v, h1, h2⟩ := DnAll.get' (i := i) (v := d) t (by simpa using e)
    exact ⟨v, by simpa using h1, h2⟩
theorem DnAll.append : ∀ {xs ys : List V} {ds es : List D}, DnAll K H N xs ds → DnAll K H N ys es → DnAll K H N (xs ++ ys) (ds ++ es)
  | _, _, _, _, .nil, h => h
  | _, _, _, _, .cons r t, h => .cons r (DnAll.append t h)
theorem DnAll.take : ∀ {xs : List V} {ds : List D} (n : Nat), DnAll K H N xs ds → DnAll K H N (xs.take n) (ds.take n)
  | _, _, 0, _ => by simpa using DnAll.nil
  | _, _, _ + 1, .nil => by simpa using DnAll.nil
  | _, _, n + 1, .cons r t => by simpa using DnAll.cons r (DnAll.take n t)
theorem DnAll.drop : ∀ {xs : List V} {ds : List D} (n : Nat), DnAll K H N xs ds → DnAll K H N (xs.drop n) (ds.drop n)
  | _, _, 0, h => by simpa using h
  | _, _, _ + 1, .nil => by simpa using DnAll.nil
  | _, _, n + 1, .cons _ t => by simpa using DnAll.drop n t
theorem DnAll.set {v : V} {d : D} (r : Dn K H N v d) : ∀ {xs : List V} {ds : List D} (i : Nat), DnAll K H N xs ds → DnAll K H N (xs.set i v) (ds.set i d)
  | _, _, _, .nil => by simpa using DnAll.nil
  | _, _, 0, .cons _ t => by simpa using DnAll.cons r t
  | _, _, i + 1, .cons q t => by simpa using DnAll.cons q (DnAll.set r i t)
theorem DnAll.reverse {xs : List V} {ds : List D} (h : DnAll K H N xs ds) : DnAll K H N xs.reverse ds.reverse := by
  induction xs generalizing ds with
  | nil => cases h; exact .nil
  | cons v vs ih =>
    cases h with
    | cons r t =>
      rw [List.reverse_cons, List.reverse_cons]
      exact (ih t).append (.cons r .nil)
mutual
theorem Dn.dp : ∀ {v : V} {d : D}, Dn K H N v d → (∀ kvs, d ≠ .dict kvs) → d.hasDict = false → Dp K H v d
  | _, _, .non, _, _ => .non
  | _, _, .bl b, _, _ => .bl b
  | _, _, .int i, _, _ => .int i
  | _, _, .str x, _, _ => .str x
  | _, _, .lst h t, _, e => .lst h.sq (DnAll.dp t (by simpa [PyData.hasDict] using e))
  | _, _, .tup h t, _, e => .tup h.sq (DnAll.dp t (by simpa [PyData.hasDict] using e))
  | _, _, .dic _ _, h, _ => absurd rfl (h [])
theorem DnAll.dp : ∀ {vs : List V} {ds : List D}, DnAll K H N vs ds → PyData.hasDictAll ds = false → DpAll K H vs ds
  | _, _, .nil, _ => .nil
  | _, d :: ds, .cons h t, e => by
    have e' : d.hasDict = false ∧ PyData.hasDictAll ds = false := by simpa [PyData.hasDictAll] using e
    exact .cons (Dn.dp h (fun kvs q => by subst q; simp [PyData.hasDict] at e') e'.1) (DnAll.dp t e'.2)
end
end

mutual
inductive RW (K : PySem.W.Frag) (mg : Str → Option Value) (H : Hp) (N : Addr → Prop) (μ : List Addr) : V → W → Prop
  | d {v : V} {x : D} : Dn K H N v x → RW K mg H N μ v (.d x)
  | ref {a : Addr} {n : Nat} : μ[n]? = some a → RW K mg H N μ (.ref a) (.ref n)
  | own {a : Addr} {vs : List V} {xs : List D} : H a = some (.lst vs) → DnAll K H N vs xs → RW K mg H N μ (.ref a) (.own xs)
  | tw {a : Addr} {vs : List V} {ws : List W} : ¬ N a → H a = some (.tup vs) → RWs K mg H N μ vs ws → RW K mg H N μ (.ref a) (.tw ws)
  | fn {a : Addr} {x : String} : mg (Str.ofString x) = some (.ref a) → RW K mg H N μ (.ref a) (.fn x)
  | scr {a : Addr} {xs : List Int} : RdF K H N a (xs.map V.int) → RW K mg H N μ (.ref a) (.scr xs)
inductive RWs (K : PySem.W.Frag) (mg : Str → Option Value) (H : Hp) (N : Addr → Prop) (μ : List Addr) : List V → List W → Prop
  | nil : RWs K mg H N μ [] []
  | cons {v : V} {vs : List V} {w : W} {ws : List W} : RW K mg H N μ v w → RWs K mg H N μ vs ws → RWs K mg H N μ (v :: vs) (w :: ws)
end
mutual
/-- without anything of one's own -/
def W.plain : W → Bool
  | .d _ => true
  | .ref _ => true
  | .own _ => false
  | .ownd _ => false
  | .tw xs => W.plains xs
  | .fn _ => true
  | .scr _ => true
def W.plains : List W → Bool
  | [] => true
  | w :: ws => W.plain w && W.plains ws
end
section
variable {K : PySem.W.Frag} {mg : Str → Option Value} {H H' : Hp} {N N' : Addr → Prop} {μ μ' : List Addr}
theorem pre_get {μ μ' : List Addr} (p : μ <+: μ') {n : Nat} {a : Addr} (h : μ[n]? = some a) : μ'[n]? = some a := by
  obtain ⟨t, rfl⟩ := p
  have hl : n < μ.length := by
    rcases Nat.lt_or_ge n μ.length with q | q
    · exact q
    · rw [List.getElem?_eq_none q] at h; cases h
  rw [List.getElem?_append_left hl]
  exact h
mutual
theorem RW.keep (k : Keep N H N' H') (p : μ <+: μ') : ∀ {v : V} {w : W}, RW K mg H N μ v w → w.plain = true → RW K mg H' N' μ' v w
  | _, _, .d h, _ => .d (h.keep k)
  | _, _, .ref h, _ => .ref (pre_get p h)
  | _, _, .own _ _, e => by simp [W.plain] at e
  | _, _, .tw n h t, e => .tw (k _ _ n h).2 (k _ _ n h).1 (RWs.keep k p t (by simpa [W.plain] using e))
  | _, _, .fn h, _ => .fn h
  | _, _, .scr h, _ => .scr (h.keep k)
theorem RWs.keep (k : Keep N H N' H') (p : μ <+: μ') : ∀ {vs : List V} {ws : List W}, RWs K mg H N μ vs ws → W.plains ws = true → RWs K mg H' N' μ' vs ws
  | _, _, .nil, _ => .nil
  | _, _, .cons h t, e => by
    simp only [W.plains, Bool.and_eq_true] at e
    exact .cons (RW.keep k p h e.1) (RWs.keep k p t e.2)
end
theorem RWs.length : ∀ {vs : List V} {ws : List W}, RWs K mg H N μ vs ws → vs.length = ws.length
  | _, _, .nil => rfl
  | _, _, .cons _ t => congrArg (· + 1) (RWs.length t)
end

def W.isOwn : W → Bool
  | .own _ => true
  | .ownd _ => true
  | _ => false
/-- plain or one's own -/
def W.fine (w : W) : Bool := w.plain || w.isOwn
def OwnAt (σ : L2.St) (env : EnvQ) (i : Nat) (a : Addr) : Prop := σ[i]? = some (some (.ref a)) ∧ ∃ w, env[i]? = some (some w) ∧ w.isOwn = true
/-- what this code may change: the store, its own slots -/
def MM (μ : List Addr) (σ : L2.St) (env : EnvQ) : Addr → Prop := fun a => a ∈ μ ∨ ∃ i, OwnAt σ env i a
/-- .. and what its callers may (F): data hang on none of these -/
def NN (F : Addr → Prop) (μ : List Addr) (σ : L2.St) (env : EnvQ) : Addr → Prop := fun a => MM μ σ env a ∨ F a
inductive RO (K : PySem.W.Frag) (mg : Str → Option Value) (H : Hp) (N : Addr → Prop) (μ : List Addr) (a : Addr) : O → Prop
  | lst {vs : List V} {xs : List D} : H a = some (.lst vs) → DnAll K H N vs xs → RO K mg H N μ a (.lst xs)
  | ins {C : String} {c dx : Addr} {fvs : List (Str × V)} {fs : List (Str × W)} : mg (Str.ofString C) = some (.ref c) → H a = some (.ins c dx fvs) → fvs.map (·.1) = fs.map (·.1) →
      RWs K mg H N μ (fvs.map (·.2)) (fs.map (·.2)) → W.plains (fs.map (·.2)) = true → RO K mg H N μ a (.ins C fs)
/-- the store -/
structure SimS (K : PySem.W.Frag) (mg : Str → Option Value) (H : Hp) (N : Addr → Prop) (S : Sto) (μ : List Addr) : Prop where
  len : μ.length = S.length
  nd : μ.Nodup
  obj : ∀ (n : Nat) (o : O), S[n]? = some o → ∃ a, μ[n]? = some a ∧ RO K mg H N μ a o
structure Sim (K : PySem.W.Frag) (mg : Str → Option Value) (F : Addr → Prop) (σ : L2.St) (H : Hp) (env : EnvQ) (S : Sto) (μ : List Addr) : Prop where
  len : σ.length = env.length
  slot : ∀ (i : Nat) (w : W), env[i]? = some (some w) → ∃ v, σ[i]? = some (some v) ∧ RW K mg H (NN F μ σ env) μ v w
  fin : ∀ (i : Nat) (w : W), env[i]? = some (some w) → w.fine = true
  inj : ∀ (i j : Nat) (a : Addr), OwnAt σ env i a → OwnAt σ env j a → i = j
  apart : ∀ (i : Nat) (a : Addr), OwnAt σ env i a → a ∉ μ
  st : SimS K mg H (NN F μ σ env) S μ
  ftr : ∀ a, F a → ∃ u, H a = some u
  fdis : ∀ a, F a → ¬ MM μ σ env a
/-- from one state to a later one, the slots as they were -/
structure Ext (σ : L2.St) (env : EnvQ) (H : Hp) (μ : List Addr) (H' : Hp) (μ' : List Addr) : Prop where
  keep : Keep (MM μ σ env) H (MM μ' σ env) H'
  pre : μ <+: μ'
theorem Ext.nn {σ : L2.St} {env : EnvQ} {H H1 : Hp} {μ μ1 : List Addr} (x : Ext σ env H μ H1 μ1) (F : Addr → Prop) : Keep (NN F μ σ env) H (NN F μ1 σ env) H1 := fun a o n e =>
  let z := x.keep a o (fun q => n (.inl q)) e
  ⟨z.1, fun q => q.elim z.2 fun q => n (.inr q)⟩
theorem Ext.refl (σ : L2.St) (env : EnvQ) (H : Hp) (μ : List Addr) : Ext σ env H μ H μ := ⟨Keep.refl _ _, List.prefix_refl _⟩
theorem Ext.trans {σ : L2.St} {env : EnvQ} {H H1 H2 : Hp} {μ μ1 μ2 : List Addr} (x : Ext σ env H μ H1 μ1) (y : Ext σ env H1 μ1 H2 μ2) : Ext σ env H μ H2 μ2 :=
  ⟨x.keep.trans y.keep, List.IsPrefix.trans x.pre y.pre⟩
section
variable {K : PySem.W.Frag} {mg : Str → Option Value} {F : Addr → Prop} {σ : L2.St} {env : EnvQ} {H H' : Hp} {S : Sto} {μ μ' : List Addr}
theorem RO.tracked {N : Addr → Prop} {a : Addr} {o : O} (h : RO K mg H N μ a o) : ∃ u, H a = some u := by
  cases h with
  | lst h _ => exact ⟨_, h⟩
  | ins _ h _ _ _ => exact ⟨_, h⟩
theorem SimS.tracked {N : Addr → Prop} (h : SimS K mg H N S μ) {a : Addr} (m : a ∈ μ) : ∃ u, H a = some u := by
  obtain ⟨n, hn⟩ := List.getElem?_of_mem m
  have hl : n < S.length := by
    rw [← h.len]
    rcases Nat.lt_or_ge n μ.length with q | q
    · exact q
    · rw [List.getElem?_eq_none q] at hn; cases hn
  obtain ⟨b, hb, ro⟩ := h.obj n S[n] (by simp [hl])
  rw [hn] at hb
  cases hb
  exact ro.tracked
theorem RW.ownTracked {N : Addr → Prop} {a : Addr} {w : W} (h : RW K mg H N μ (.ref a) w) (o : w.isOwn = true) : ∃ u, H a = some u := by
  cases h with
  | own e _ => exact ⟨_, e⟩
  | d _ => simp [W.isOwn] at o
  | ref _ => simp [W.isOwn] at o
  | tw _ _ _ => simp [W.isOwn] at o
  | fn _ => simp [W.isOwn] at o
  | scr _ => simp [W.isOwn] at o
theorem Sim.tracked (h : Sim K mg F σ H env S μ) {a : Addr} (n : NN F μ σ env a) : ∃ u, H a = some u := by
  rcases n with (m | ⟨i, e, w, hw, o⟩) | f
  · exact h.st.tracked m
  · obtain ⟨v, hv, r⟩ := h.slot i w hw
    rw [e] at hv
    cases hv
    exact r.ownTracked o
  · exact h.ftr a f
theorem Sim.fresh (h : Sim K mg F σ H env S μ) {p : Addr} (n : H p = none) : ¬ NN F μ σ env p := fun q => by
  obtain ⟨u, e⟩ := h.tracked q
  rw [n] at e
  cases e
theorem Keep.upd_new {N : Addr → Prop} {p : Addr} {o : HO} (n : H p = none) : Keep N H N (upd H p o) := fun a u na e => by
  refine ⟨?_, na⟩
  rw [upd_ne (ne_of_none e n)]
  exact e
theorem ext_new {p : Addr} {o : HO} (n : H p = none) : Ext σ env H μ (upd H p o) μ := ⟨Keep.upd_new n, List.prefix_refl _⟩
theorem Same.upd_new {p : Addr} {o : HO} (n : H p = none) : Same H (upd H p o) := fun a u e => by
  rw [upd_ne (ne_of_none e n)]
  exact e
mutual
theorem RW.same {N : Addr → Prop} (s : Same H H') : ∀ {v : V} {w : W}, RW K mg H N μ v w → RW K mg H' N μ v w
  | _, _, .d h => .d (h.keep fun a o n e => ⟨s a o e, n⟩)
  | _, _, .ref h => .ref h
  | _, _, .own h t => .own (s _ _ h) (t.keep fun a o n e => ⟨s a o e, n⟩)
  | _, _, .tw n h t => .tw n (s _ _ h) (RWs.same s t)
  | _, _, .fn h => .fn h
  | _, _, .scr h => .scr (h.keep fun a o n e => ⟨s a o e, n⟩)
theorem RWs.same {N : Addr → Prop} (s : Same H H') : ∀ {vs : List V} {ws : List W}, RWs K mg H N μ vs ws → RWs K mg H' N μ vs ws
  | _, _, .nil => .nil
  | _, _, .cons h t => .cons (RW.same s h) (RWs.same s t)
end
theorem RO.same {N : Addr → Prop} (s : Same H H') {a : Addr} {o : O} (h : RO K mg H N μ a o) : RO K mg H' N μ a o := by
  cases h with
  | lst h t => exact .lst (s _ _ h) (t.keep fun a o n e => ⟨s a o e, n⟩)
  | ins g h m t p => exact .ins g (s _ _ h) m (RWs.same s t) p
/-- what was tracked is still there: the state stands -/
theorem Sim.same (h : Sim K mg F σ H env S μ) (s : Same H H') : Sim K mg F σ H' env S μ where
  len := h.len
  slot := fun i w e => let ⟨v, hv, r⟩ := h.slot i w e; ⟨v, hv, RW.same s r⟩
  fin := h.fin
  inj := h.inj
  apart := h.apart
  st := ⟨h.st.len, h.st.nd, fun n o e => let ⟨a, ha, r⟩ := h.st.obj n o e; ⟨a, ha, r.same s⟩⟩
  ftr := fun a f => let ⟨u, e⟩ := h.ftr a f; ⟨u, s a u e⟩
  fdis := h.fdis
theorem Sim.new (h : Sim K mg F σ H env S μ) {p : Addr} {o : HO} (n : H p = none) : Sim K mg F σ (upd H p o) env S μ := h.same (Same.upd_new n)
theorem Ext.same (s : Same H H') : Ext σ env H μ H' μ := ⟨fun a o n e => ⟨s a o e, n⟩, List.prefix_refl _⟩
end

section
variable (K : PySem.W.Frag) (mg : Str → Option Value) (EX : WX)
def Post {α : Type} (F : Addr → Prop) (σ : L2.St) (env : EnvQ) (H : Hp) (μ : List Addr) (r : R α) (P : α → Sto → Hp → List Addr → Prop) : Prop :=
  match r with
  | .ok a S' => ∀ H' μ', Sim K mg F σ H' env S' μ' → Ext σ env H μ H' μ' → P a S' H' μ'
  | .exc c S' => ∀ C H' μ', mg (Str.ofString c) = some (.ref C) → Sim K mg F σ H' env S' μ' → Ext σ env H μ H' μ' → EX (.ref C) none σ H'
  | .stuck => False
end
section
variable {K : PySem.W.Frag} {mg : Str → Option Value} {EX : WX} {F : Addr → Prop} {σ : L2.St} {env : EnvQ} {H H' : Hp} {S : Sto} {μ μ' : List Addr} {α β : Type}
theorem Post.ext {r : R α} {P : α → Sto → Hp → List Addr → Prop} (h : Post K mg EX F σ env H μ r P) (x : Ext σ env H μ H' μ') : Post K mg EX F σ env H' μ' r P := by
  cases r with
  | ok a S' => exact fun H2 μ2 s2 x2 => h H2 μ2 s2 (x.trans x2)
  | exc c S' => exact fun C H2 μ2 g s2 x2 => h C H2 μ2 g s2 (x.trans x2)
  | stuck => exact h
theorem Post.bind {r : R α} {g : α → Sto → R β} {P : β → Sto → Hp → List Addr → Prop} (h : Post K mg EX F σ env H μ (r.bind g) P) :
    Post K mg EX F σ env H μ r (fun a S' H' μ' => Post K mg EX F σ env H' μ' (g a S') P) := by
  cases r with
  | ok a S' => exact fun H2 μ2 s2 x2 => Post.ext h x2
  | exc c S' => exact h
  | stuck => exact h
theorem Post.mono {r : R α} {P P' : α → Sto → Hp → List Addr → Prop} (h : Post K mg EX F σ env H μ r P) (f : ∀ a S' H' μ', Sim K mg F σ H' env S' μ' → Ext σ env H μ H' μ' → P a S' H' μ' → P' a S' H' μ') :
    Post K mg EX F σ env H μ r P' := by
  cases r with
  | ok a S' => exact fun H2 μ2 s2 x2 => f _ _ _ _ s2 x2 (h H2 μ2 s2 x2)
  | exc c S' => exact h
  | stuck => exact h
theorem Post.ok {a : α} {P : α → Sto → Hp → List Addr → Prop} (h : Post K mg EX F σ env H μ (.ok a S) P) (s : Sim K mg F σ H' env S μ') (x : Ext σ env H μ H' μ') : P a S H' μ' := h H' μ' s x
end

section
variable (K : PySem.W.Frag) (mg : Str → Option Value) (cf : CF) (EX : WX)
def tE (f : SE) : TE := fun σ H Q => ∃ env S μ F, Sim K mg F σ H env S μ ∧ Post K mg EX F σ env H μ (f cf env S) fun w _ H' μ' => ∀ v, RW K mg H' (NN F μ' σ env) μ' v w → Q v H'
def tT (f : ST) : TT := fun σ H Q => ∃ env S μ F, Sim K mg F σ H env S μ ∧ Post K mg EX F σ env H μ (f cf env S) fun b _ H' _ => Q b H'
def tA (f : SA) : TA := fun σ H Q => ∃ env S μ F, Sim K mg F σ H env S μ ∧ Post K mg EX F σ env H μ (f cf env S) fun ws _ H' μ' => ∀ vs, RWs K mg H' (NN F μ' σ env) μ' vs ws → Q vs H'
end
def ME (X : Cx) (cf : CF) (EX : WX) (e : Expr) (f : SE) : Prop := PE X e (tE X.K X.mg cf EX f)
def MT (X : Cx) (cf : CF) (EX : WX) (e : Expr) (f : ST) : Prop := PT X e (tT X.K X.mg cf EX f)
def MW (X : Cx) (cf : CF) (EX : WX) (e : Expr) (f : ST) : Prop := PW X e (tT X.K X.mg cf EX f)
def MA (X : Cx) (cf : CF) (EX : WX) (es : List Expr) (f : SA) : Prop := PA X es (tA X.K X.mg cf EX f)
theorem PE.weak {X : Cx} {e : Expr} {t t' : TE} (h : PE X e t) (w : ∀ σ H Q, t' σ H Q → t σ H Q) : PE X e t' := ⟨fun pins s σ H Q I q => h.run pins s σ H Q I (w σ H Q q)⟩
theorem PT.weak {X : Cx} {e : Expr} {t t' : TT} (h : PT X e t) (w : ∀ σ H Q, t' σ H Q → t σ H Q) : PT X e t' := ⟨fun pins s σ H Q I q => h.run pins s σ H Q I (w σ H Q q)⟩
theorem PW.weak {X : Cx} {e : Expr} {t t' : TT} (h : PW X e t) (w : ∀ σ H Q, t' σ H Q → t σ H Q) : PW X e t' := ⟨fun wh pins s σ H Q I q => h.run wh pins s σ H Q I (w σ H Q q)⟩
theorem PA.weak {X : Cx} {es : List Expr} {t t' : TA} (h : PA X es t) (w : ∀ σ H Q, t' σ H Q → t σ H Q) : PA X es t' := ⟨fun pos pins s σ H Q I q => h.run pos pins s σ H Q I (w σ H Q q)⟩
theorem PS.weak {X : Cx} {st : Stmt} {t t' : TS} (h : PS X st t) (w : ∀ D σ H, t' D σ H → t D σ H) : PS X st t' := ⟨fun pins s σ H D I q => h.run pins s σ H D I (w D σ H q)⟩
theorem PSs.weak {X : Cx} {st : List Stmt} {t t' : TS} (h : PSs X st t) (w : ∀ D σ H, t' D σ H → t D σ H) : PSs X st t' := ⟨fun pins s σ H D I q => h.run pins s σ H D I (w D σ H q)⟩
end Q

namespace Q
open PySem PySem.Spec PyProof.Rows L2

/-- as FnOk, of calls without a guard around -/
structure FnG (P : Program) (w : World) (K : PySem.W.Frag) (mg : Str → Option Value) (base : Heap) (CX : CXT) (k : Nat) (f : Addr) (fd : FuncData) (ps : List Str) (sp : Sp) : Prop where
  len : ∀ vs H Q E, sp vs H Q E → vs.length = ps.length
  run : ∀ (A : Around) (outer : List Env) (s : Shared) (H : Hp) (args : Args) (us : List Value) (vs : List V) (Q : VK) (E : XK), A.guards = some [] → Room k A → Env0 P w K mg base A outer s H → BindsTo s fd args (ps.zip us) → Vals vs us → sp vs H Q E →
    codeAny (model P w) A (.call (.ref f) args) (CR CX outer P w H s Q E) s
section
variable {X : Cx} {k : Nat} {f : Addr} {fd : FuncData} {ps : List Str} {sp : Sp} {EX : WX} {x : Str} {p pos : Pos} {e : Expr} {es : List Expr} {t : TA}
theorem run_G {pins : List (Addr × Obj)} {σ : L2.St} {H : Hp} {s : Shared} {Q : VK} {us : List Value} {vs : List V} (F : FnG X.prog X.w X.K X.mg X.base (L2.CX X.prog X.w) k f fd ps sp) (hg : X.A.guards = some []) (hr : Room k X.A) (hb : Binds X.K fd ps []) (tk : Takes X EX)
    (I : Inv X pins σ H s) (r : Vals vs us) (h : sp vs H Q (WE EX σ)) : wpAny (model X.prog X.w) X.A (call (.ref f) us) (EP X pins σ Q) X.xe s := by
  have hl : us.length = ps.length := by
    rw [← r.length]
    exact F.len _ _ _ _ h
  have bt := hb s us I.kIn (by simpa using hl)
  rw [List.append_nil] at bt
  apply wpAny_call
  apply codeAny_mono (F.run X.A X.stack s H ⟨us, []⟩ us vs Q (WE EX σ) hg hr I.env0 bt r h)
  rintro (e | fl) s' hq
  · exact passAt tk σ pins H s e s' I hq
  · cases fl with
    | ret u => exact I.after hq
    | _ => exact hq.elim
theorem pe_callG (F : FnG X.prog X.w X.K X.mg X.base (L2.CX X.prog X.w) k f fd ps sp) (hA : X.A.guards = some []) (hr : Room k X.A) (hg : Gl X x) (hm : X.mg x = some (.ref f)) (hk : PySem.W.keepIn X.K (.ref f) = true) (hb : Binds X.K fd ps []) (tk : Takes X EX)
    (ha : PA X (e :: es) t) (hdb : (x == ("__debug__" : Str)) = false) (he : starEach (e :: es) X.env = (false, eval e X.env) :: starEach es X.env) (hpl : (backTo pos (starEach es X.env)).any (·.1) = false) :
    PE X (.Call (.Name x p) (e :: es) [] pos) (tCallS sp (WE EX) t) := by
  constructor
  intro pins s σ H Q I h
  apply wpAny_Call_Name_kw
  apply ld_glob I hg hm _ hdb
  exact PySem.W.callWith_K (h₀ := X.base) I.ok.mod.kin hk (thn (ha.run pos pins s σ H _ I h) fun us s1 ⟨vs, H1, I1, r, q⟩ => ⟨I1.kIn, run_G F hA hr hb tk I1 r q⟩) he hpl
theorem pe_call0G (F : FnG X.prog X.w X.K X.mg X.base (L2.CX X.prog X.w) k f fd ps sp) (hA : X.A.guards = some []) (hr : Room k X.A) (hg : Gl X x) (hm : X.mg x = some (.ref f)) (hk : PySem.W.keepIn X.K (.ref f) = true) (hb : Binds X.K fd ps []) (tk : Takes X EX)
    (hdb : (x == ("__debug__" : Str)) = false) : PE X (.Call (.Name x p) [] [] pos) (tCallS sp (WE EX) tNil) := by
  constructor
  intro pins s σ H Q I h
  apply wpAny_Call_Name_kw
  apply ld_glob I hg hm _ hdb
  exact PySem.W.callWith_K0 I.kIn hk (run_G (us := []) F hA hr hb tk I .nil h)
end
/-- a def's body keeps its promise -/
theorem ok_G {CX : CXT} {P : Program} {w : World} {K : PySem.W.Frag} {mg : Str → Option Value} {base : Heap} {k : Nat} {f : Addr} {fd : FuncData} {x qual : Str} {params : Arguments} {body : List Stmt} {scope : Scope} {dvs : List V} {kws : List (Str × V)} {N ps : List Str} {sp : Sp} (F : FunD K x qual params body scope dvs kws f fd) (S : FnScope N ps scope)
    (len : ∀ vs H Q E, sp vs H Q E → vs.length = ps.length)
    (hbody : ∀ (cdv : Value) (A : Around) (outer : List Env) (s : Shared) (H : Hp) (vs : List V) (Q : VK) (E : XK), A.guards = some [] → Room k (A.deeper (envOfC qual scope s.heap.objs.size f cdv)) → sp vs H Q E →
      ∃ t, PSs (cxOf CX P w K mg base N qual scope f cdv A outer s H E) body t ∧ t { nx := fun _ H' => Q .non H', rt := Q } (start N vs) H) : FnG P w K mg base CX (k + 1) f fd ps sp := by
  obtain ⟨oc, od, dV, kV, doc, pm, an, cdv, ct, osl, rfl, lk, hcd, _, _⟩ := F.ex
  refine ⟨len, ?_⟩
  intro A outer s H args us vs Q E hg hr e0 hb r hsp
  have up : ∀ b o, base.get? b = some o → s.heap.get? b = some o := fun b o e => (e0.bs b o e).1
  have KX : K.In s.heap := e0.mod.kin.keeps up
  apply codeAny_call_function hr.depth (KX _ _ lk) rfl S.co S.gen rfl (PySem.W.codeRec_of KX hcd)
  apply hb
  have kinds : ∀ y ∈ ps.zip us, scope.names.lookup y.1 = some .local ∨ (scope.names.lookup y.1 = some .cell ∧ ((cellsFrom (s.heap.objs.size + 1) scope.names []).lookup y.1).isSome = true) := by
    rintro ⟨n, v⟩ hy
    rcases S.par n (List.of_mem_zip hy).1 with q | q
    · exact .inl q
    · exact .inr ⟨q, PySem.W.cellsFrom_some _ _ _ (.inl q)⟩
  apply wpAny_newFunctionEnv_cells S.kind kinds
  rintro env rfl s1 xx
  refine ⟨(e0.mod.nolimit.keeps up).keeps xx.toInCall.keep, codeAny_func ?_⟩
  obtain ⟨t, ht, hq⟩ := hbody cdv A outer s H vs Q E hg (hr.deeper _) hsp
  have I : Inv (cxOf CX P w K mg base N qual scope f cdv A outer s H E) [] (start N vs) H s1 := inv_start S hr.hd e0 (len _ _ _ _ hsp) r xx
  apply wpAny_mono (ht.run [] s1 (start N vs) H _ I hq)
  · intro fl s' hs
    cases fl with
    | ret u =>
      obtain ⟨v, σ', H', J, rv, q⟩ := hs
      exact ⟨v, H', J.os, J.bare, J.base, J.hok, rv, q⟩
    | next =>
      obtain ⟨σ', H', J, q⟩ := hs
      exact ⟨V.non, H', J.os, J.bare, J.base, J.hok, rfl, q⟩
    | brk =>
      obtain ⟨_, _, _, q⟩ := hs
      exact q.elim
    | cont =>
      obtain ⟨_, _, _, q⟩ := hs
      exact q.elim
  · exact fun _ _ h => h
section
variable {P : Program} {w : World} {K : PySem.W.Frag} {mg mb : Str → Option Value} {k : Nat} {fa a : Addr} {fd : FuncData} {x : Str} {sp : Sp} {s₁ : Shared} {vs : List Value} {ns : List Int}
/-- what a law's end asks of the state behind the call -/
abbrev EndG (s₁ : Shared) : Result → Shared → Prop := fun r s' => r = .ok (.ret (.bool true)) ∧ OldK s₁.heap s'.heap ∧ s'.os = s₁.os ∧ AllBare s'.gens
/-- from a tracked heap that holds nothing but the script -/
theorem end_core (KX : K.In s₁.heap) (hns : s₁.heap.Ns mainGlobals mg) (hb : s₁.heap.Ns builtinsNs mb) (hbb : ∀ x : Str, x ≠ "__name__" → mb x = bootBuiltins x) (hlim : s₁.heap.NoLimit) (hg : s₁.gens = #[])
    (ha : s₁.heap.get? a = some { cls := .type "list", data := .seq vs.toArray }) (hr : Room k callerA)
    (F : ∀ base : Heap, K.In base → base.Ns mainGlobals mg → FnG P w K mg base (L2.CX P w) k fa fd [x] sp) (hbind : ∀ (s : Shared) (u : Value), BindsTo s fd ⟨[u], []⟩ [(x, u)])
    (hsp : ∀ H : Hp, Only H → SqL K H a (ns.map V.int) → sp [.ref a] H (fun v _ => v = .bl true) fun _ _ _ => False)
    (H : Hp) (hO : Only H) (hS : SqL K H a (ns.map V.int)) (hok : HOk P w H s₁.heap) (hA : ∀ b, H b ≠ none → b = a) (hK : H a ≠ none → K.lookup a = none) :
    codeAny (model P w) callerA (.call (.ref fa) ⟨[.ref a], []⟩) (EndG s₁) s₁ := by
  have off : ∀ {b : Addr} {o : Obj} {es : Array DictEntry} {ep : Nat}, s₁.heap.get? b = some o → o.data = .dict es ep → H b = none := by
    intro b o es ep e d
    by_cases q : H b = none
    · exact q
    · have z := hA b q
      subst z
      rw [ha] at e
      cases e
      cases d
  have ns : ∀ {b : Addr} {m : Str → Option Value}, s₁.heap.Ns b m → (hidT s₁.heap H).Ns b m := by
    rintro b m ⟨o, es, ep, e, d, r⟩
    exact ⟨o, es, ep, hidT_get e (off e d), d, r⟩
  have hKb : K.In (hidT s₁.heap H) := by
    intro b o e
    apply hidT_get (KX b o e)
    by_cases q : H b = none
    · exact q
    · have z := hA b q
      subst z
      rw [hK q] at e
      cases e
  have lim : (hidT s₁.heap H).NoLimit := by
    obtain ⟨mc, h1, h2⟩ := hlim
    exact ⟨mc, ns h1, h2⟩
  have e0 : Env0 P w K mg (hidT s₁.heap H) callerA [] s₁ H :=
    { frames := rfl, mod := ⟨hKb, ns hns, ⟨mb, ns hb, hbb⟩, lim⟩, bs := fun b o e => of_hidT e, bsz := Nat.le_of_eq (hidT_size _ _), funs := trivial, frf := fun b hb => absurd hb (by simp [frs]), hok := hok, bare := .of_eq hg }
  apply codeAny_mono ((F _ hKb (ns hns)).run callerA [] s₁ H ⟨[.ref a], []⟩ [.ref a] [.ref a] _ _ rfl hr e0 (hbind s₁ (.ref a)) (.cons rfl .nil) (hsp H hO hS))
  rintro (e | fl) s' h
  · obtain ⟨_, _, _, _, _, _, _, _, _, _, _, _, z⟩ := h
    exact z.elim
  · cases fl with
    | ret u =>
      obtain ⟨v, H', os, bare, un, hok', r', rfl⟩ := h
      cases r'
      refine ⟨rfl, OldK.of_keep ?_, os, bare⟩
      intro b o e
      by_cases q : H b = none
      · exact un.keep b o e q (by simp [frs]) (by simp)
      · rcases hO b with z | ⟨ob, xs, z⟩
        · exact absurd z q
        · obtain ⟨e1, _⟩ := hok b _ z
          obtain ⟨e2, _⟩ := hok' b _ (un.frzs b ob _ z)
          rw [e] at e1
          cases e1
          exact e2
    | _ => exact h.elim
theorem law_G (KX : K.In s₁.heap) (hns : s₁.heap.Ns mainGlobals mg) (hb : s₁.heap.Ns builtinsNs mb) (hbb : ∀ x : Str, x ≠ "__name__" → mb x = bootBuiltins x) (hlim : s₁.heap.NoLimit) (hg : s₁.gens = #[])
    (ha : s₁.heap.get? a = some { cls := .type "list", data := .seq vs.toArray }) (hi : IntsAre vs ns) (hl : ns.length ≤ sizeLine) (hr : Room k callerA)
    (F : ∀ base : Heap, K.In base → base.Ns mainGlobals mg → FnG P w K mg base (L2.CX P w) k fa fd [x] sp) (hbind : ∀ (s : Shared) (u : Value), BindsTo s fd ⟨[u], []⟩ [(x, u)])
    (hsp : ∀ H : Hp, Only H → SqL K H a (ns.map V.int) → sp [.ref a] H (fun v _ => v = .bl true) fun _ _ _ => False) :
    codeAny (model P w) callerA (.call (.ref fa) ⟨[.ref a], []⟩) (EndG s₁) s₁ := by
  have rv := vals_ints hi
  have core := end_core KX hns hb hbb hlim hg ha hr F hbind hsp
  cases hk : K.lookup a with
  | some o =>
    have e := KX a o hk
    rw [ha] at e
    cases e
    apply core (fun _ => none)
    · exact fun _ => .inl rfl
    · exact .inr ⟨_, vs.toArray, _, hk, rfl, rfl, rfl, by rw [List.size_toArray, hi.length]; exact hl, by simpa using rv⟩
    · intro b u z
      cases z
    · exact fun b z => absurd rfl z
    · exact fun z => absurd rfl z
  | none =>
    have at_a : upd (fun _ => none) a (.frz { cls := .type "list", data := .seq vs.toArray } (.lst (ns.map V.int))) a = some (.frz { cls := .type "list", data := .seq vs.toArray } (.lst (ns.map V.int))) := upd_same
    apply core (upd (fun _ => none) a (.frz { cls := .type "list", data := .seq vs.toArray } (.lst (ns.map V.int))))
    · intro b
      by_cases hb : b = a
      · subst hb
        exact .inr ⟨_, _, at_a⟩
      · exact .inl (upd_ne hb)
    · exact .inl (.inr ⟨_, at_a⟩)
    · intro b u z
      by_cases hb : b = a
      · subst hb
        rw [at_a] at z
        cases z
        exact ⟨ha, by rw [List.length_map]; exact hl, vs, _, rv, ha⟩
      · rw [upd_ne hb] at z
        cases z
    · intro b z
      by_cases hb : b = a
      · exact hb
      · exact absurd (upd_ne hb) z
    · exact fun _ => hk
end
theorem walk_G {l : PySem.W.OpenLaw} {n k : Nat} {q : Program} {loose : List Str} {XP : (Str → Option Value) → Heap → Prop} {YP : World → Heap → Prop} {d : DefRec} {x : Str}
    (hn : l.most = some n) (hn2 : n ≤ sizeLine) (hdf : d.params.defaults = []) (hr : Room k callerA)
    (F : ∀ (w : World) (mg : Str → Option Value) (fa : Addr) (h : Heap), YP w h → h.Ns mainGlobals mg → mg d.name = some (.ref fa) →
      ∃ (K : PySem.W.Frag) (fd : FuncData) (sp : Sp), K.In h ∧ (∀ (s : Shared) (u : Value), BindsTo s fd ⟨[u], []⟩ [(x, u)]) ∧
        (∀ (H : Hp) (a : Addr) (ns : List Int), ns.length ≤ n → Only H → SqL K H a (ns.map V.int) → sp [.ref a] H (fun v _ => v = .bl true) fun _ _ _ => False) ∧
        ∀ base : Heap, K.In base → base.Ns mainGlobals mg → FnG l.prog w K mg base (L2.CX l.prog w) k fa fd [x] sp) :
    PySem.W.WalkO q loose XP YP l.row.toRowW d [] (fun f vs => PySem.call f vs) := by
  apply Att.attach_call hn hdf
  intro w s₀ s₁ mg mb fa o pm cd doc a vs ns G Y ho hd hcd hmg hobj hints hlen hg
  obtain ⟨K, fd, sp, KX, hb, hsp, hF⟩ := F w mg fa _ Y G.T.g hmg
  exact law_G KX G.T.g G.T.b G.T.builtins G.T.nolimit hg hobj hints (Nat.le_trans hlen hn2) hr hF hb fun H hO hS => hsp H a ns hlen hO hS
end Q

namespace Q
open PySem PySem.Spec PyProof.Rows L2

def fW (w : W) : SE := fun _ _ S => .ok w S
def fInt (i : Int) : SE := fW (.d (.int i))
def fBl (b : Bool) : SE := fW (.d (.bool b))
def fNon : SE := fW (.d .none)
def fStr (s : Str) : SE := fW (.d (.str s))
def fVar (i : Nat) : SE := fun _ env S => match env[i]? with
  | some (some w) => if w.plain then .ok w S else .stuck
  | _ => .stuck
abbrev G2 := W → W → Sto → R W
def fBin (g : G2) (a b : SE) : SE := fun cf env S => (a cf env S).bind fun x S1 => (b cf env S1).bind fun y S2 => g x y S2
abbrev LIM : Nat := 16777216
def gAdd : G2
  | .d (.int i), .d (.int j), S => .ok (.d (.int (i + j))) S
  | .d (.str a), .d (.str b), S => if a.length + b.length ≤ LIM then .ok (.d (.str (a ++ b))) S else .stuck
  | .d (.tuple a), .d (.tuple b), S => if a.length + b.length ≤ LIM then .ok (.d (.tuple (a ++ b))) S else .stuck
  | .d (.list a), .d (.list b), S => if a.length + b.length ≤ LIM then .ok (.d (.list (a ++ b))) S else .stuck
  | _, _, _ => .stuck
def gSub : G2
  | .d (.int i), .d (.int j), S => .ok (.d (.int (i - j))) S
  | _, _, _ => .stuck
/-- a number small enough for products -/
def sm (i : Int) : Bool := Nat.ble i.natAbs 18446744073709551615
theorem sm_iff {i : Int} (h : sm i = true) : -(2 ^ 64) < i ∧ i < 2 ^ 64 := by
  have := Nat.le_of_ble_eq_true h
  omega
def gMul : G2
  | .d (.int i), .d (.int j), S => if sm i || sm j then .ok (.d (.int (i * j))) S else .stuck
  | _, _, _ => .stuck
def gMod : G2
  | .d (.int i), .d (.int j), S => if 0 < j then .ok (.d (.int (i % j))) S else .stuck
  | _, _, _ => .stuck
def gDiv : G2
  | .d (.int i), .d (.int j), S => if 0 < j ∧ Nat.ble j.natAbs 1073741823 = true then .ok (.d (.int (i / j))) S else .stuck
  | _, _, _ => .stuck
def gPow : G2
  | .d (.int i), .d (.int j), S => if 0 ≤ j ∧ j ≤ 1000000 ∧ i.natAbs < 2 ^ 64 then .ok (.d (.int (i ^ j.toNat))) S else .stuck
  | _, _, _ => .stuck
def gCmp (p : Int → Int → Bool) : G2
  | .d (.int i), .d (.int j), S => .ok (.d (.bool (p i j))) S
  | _, _, _ => .stuck
def gLt : G2 := gCmp fun i j => decide (i < j)
def gLe : G2 := gCmp fun i j => decide (i ≤ j)
def gGt : G2 := gCmp fun i j => decide (j < i)
def gGe : G2 := gCmp fun i j => decide (j ≤ i)
/-- data that == may look at -/
def okEq (d : D) : Bool := d.canLay0 && decide (d.depth ≤ 64)
def gEq : G2
  | .d (.str a), .d (.str b), S => .ok (.d (.bool (decide (a = b)))) S
  | .d x, .d y, S => if okEq x && okEq y then .ok (.d (.bool (PyData.eqv x y))) S else .stuck
  | _, _, _ => .stuck
def gNe : G2
  | .d (.str a), .d (.str b), S => .ok (.d (.bool (!decide (a = b)))) S
  | .d x, .d y, S => if okEq x && okEq y then .ok (.d (.bool (!PyData.eqv x y))) S else .stuck
  | _, _, _ => .stuck
def W.isNone : W → Bool
  | .d .none => true
  | _ => false
def fIsNone (a : SE) : SE := fun cf env S => (a cf env S).bind fun x S1 => .ok (.d (.bool x.isNone)) S1
def fNotNone (a : SE) : SE := fun cf env S => (a cf env S).bind fun x S1 => .ok (.d (.bool (!x.isNone))) S1
def fNeg (a : SE) : SE := fun cf env S => (a cf env S).bind fun x S1 => match x with
  | .d (.int i) => .ok (.d (.int (-i))) S1
  | _ => .stuck
/-- tests -/
def cVal (a : SE) : ST := fun cf env S => (a cf env S).bind fun x S1 => match x with
  | .d (.bool b) => .ok b S1
  | _ => .stuck
def cNot (a : ST) : ST := fun cf env S => (a cf env S).bind fun b S1 => .ok (!b) S1
def cAnd (a b : ST) : ST := fun cf env S => (a cf env S).bind fun x S1 => if x = true then b cf env S1 else .ok false S1
def cOr (a b : ST) : ST := fun cf env S => (a cf env S).bind fun x S1 => if x = true then .ok true S1 else b cf env S1
def fAnd (a b : SE) : SE := fun cf env S => (a cf env S).bind fun x S1 => match x with
  | .d (.bool c) => if c = true then b cf env S1 else .ok (.d (.bool false)) S1
  | _ => .stuck
def fOr (a b : SE) : SE := fun cf env S => (a cf env S).bind fun x S1 => match x with
  | .d (.bool c) => if c = true then .ok (.d (.bool true)) S1 else b cf env S1
  | _ => .stuck
def fNot (a : SE) : SE := fun cf env S => (a cf env S).bind fun x S1 => match x with
  | .d (.bool c) => .ok (.d (.bool (!c))) S1
  | _ => .stuck
def fIf (c : ST) (a b : SE) : SE := fun cf env S => (c cf env S).bind fun x S1 => if x = true then a cf env S1 else b cf env S1
def aNil : SA := fun _ _ S => .ok [] S
def aCons (a : SE) (r : SA) : SA := fun cf env S => (a cf env S).bind fun x S1 => (r cf env S1).bind fun xs S2 => if x.plain then .ok (x :: xs) S2 else .stuck
def datas : List W → Option (List D)
  | [] => some []
  | .d x :: ws => (datas ws).map (x :: ·)
  | _ :: _ => none
def fTup (a : SA) : SE := fun cf env S => (a cf env S).bind fun ws S1 => if ws.length ≤ LIM then (match datas ws with
  | some ds => .ok (.d (.tuple ds)) S1
  | none => .ok (.tw ws) S1) else .stuck
def fLst (a : SA) : SE := fun cf env S => (a cf env S).bind fun ws S1 => if ws.length ≤ LIM then (match datas ws with
  | some ds => .ok (.d (.list ds)) S1
  | none => .stuck) else .stuck
def fCall (x : String) (a : SA) : SE := fun cf env S => (a cf env S).bind fun ws S1 => cf x ws S1
def ixI (n : Nat) (i : Int) : Option Nat := if 0 ≤ i then (if i < n then some i.toNat else none) else if 0 ≤ i + n then some (i + n).toNat else none
def gIx : G2
  | .d (.tuple xs), .d (.int i), S => match ixI xs.length i with
    | some k => match xs[k]? with | some x => .ok (.d x) S | none => .stuck
    | none => .stuck
  | .d (.list xs), .d (.int i), S => match ixI xs.length i with
    | some k => match xs[k]? with | some x => .ok (.d x) S | none => .stuck
    | none => .stuck
  | .tw xs, .d (.int i), S => match ixI xs.length i with
    | some k => match xs[k]? with | some x => .ok x S | none => .stuck
    | none => .stuck
  | .ref n, .d (.int i), S => match S[n]? with
    | some (.lst xs) => match ixI xs.length i with
      | some k => match xs[k]? with | some x => .ok (.d x) S | none => .stuck
      | none => .stuck
    | _ => .stuck
  | _, _, _ => .stuck
def tyName : D → String
  | .none => "NoneType" | .bool _ => "bool" | .int _ => "int" | .str _ => "str" | .list _ => "list" | .tuple _ => "tuple" | .dict _ => "dict"
def isTy (T : String) (d : D) : Bool := tyName d == T || (tyName d == "bool" && T == "int")
def fIsI (T : String) (a : SE) : SE := fun cf env S => (a cf env S).bind fun x S1 => match x with
  | .d d => .ok (.d (.bool (isTy T d))) S1
  | _ => .stuck

section
variable {X : Cx} {cf : CF} {EX : WX} {e a b c : Expr} {es : List Expr} {fa fb fc : SE} {ga gb gc : ST} {ha hb : SA} {pos p : Pos}
theorem me_w {v : V} {w : W} (h : PE X e (tC v)) (r : ∀ H N μ, RW X.K X.mg H N μ v w) : ME X cf EX e (fW w) :=
  PE.weak h fun σ H Q ⟨env, S, μ, F, s, q⟩ => q H μ s (Ext.refl _ _ _ _) v (r _ _ _)
theorem me_int {i : Int} {j} : ME X cf EX (.Constant (.int i) j pos) (fInt i) := me_w pe_int fun _ _ _ => .d (.int i)
theorem me_bl {k : Bool} {j} : ME X cf EX (.Constant (.bool k) j pos) (fBl k) := me_w pe_bl fun _ _ _ => .d (.bl k)
theorem me_non {j} : ME X cf EX (.Constant .none j pos) fNon := me_w pe_non fun _ _ _ => .d .non
theorem me_str {x : Str} {j} : ME X cf EX (.Constant (.str x) j pos) (fStr x) := me_w pe_str fun _ _ _ => .d (.str x)
theorem me_var {i : Nat} {x : Str} (h : PE X (.Name x pos) (tVar i)) : ME X cf EX (.Name x pos) (fVar i) :=
  PE.weak h fun σ H Q ⟨env, S, μ, F, s, q⟩ => by
    unfold fVar at q
    cases e : env[i]? with
    | none => rw [e] at q; exact q.elim
    | some ow =>
      cases ow with
      | none => rw [e] at q; exact q.elim
      | some w =>
        rw [e] at q
        simp only at q
        cases pw : w.plain with
        | false => rw [pw] at q; exact q.elim
        | true =>
          rw [pw] at q
          obtain ⟨v, hv, r⟩ := s.slot i w e
          exact ⟨v, hv, q H μ s (Ext.refl _ _ _ _) v r⟩
/-- a module's whole number -/
theorem me_globI {x : Str} {i : Int} (hg : Gl X x) (hm : ∃ t, X.mg x = some (.int i t)) (hd : (x == ("__debug__" : Str)) = false := by decide) : ME X cf EX (.Name x pos) (fInt i) :=
  let ⟨t, e⟩ := hm; me_w (pe_glob (v := .int i) hg e ⟨_, rfl⟩ hd) fun _ _ _ => .d (.int i)
theorem me_globS {x y : Str} (hg : Gl X x) (hm : ∃ t, X.mg x = some (.str y t)) (hd : (x == ("__debug__" : Str)) = false := by decide) : ME X cf EX (.Name x pos) (fStr y) :=
  let ⟨t, e⟩ := hm; me_w (pe_glob (v := .str y) hg e ⟨_, rfl⟩ hd) fun _ _ _ => .d (.str y)
/-- a module's tuple -/
theorem me_globT {x : Str} {t : Addr} {d : D} (hg : Gl X x) (hm : X.mg x = some (.ref t)) (r : ∀ H N, Dn X.K H N (.ref t) d) (hd : (x == ("__debug__" : Str)) = false := by decide) : ME X cf EX (.Name x pos) (fW (.d d)) :=
  me_w (pe_glob (v := .ref t) hg hm rfl hd) fun H N _ => .d (r H N)

/-- a rule by values says no more than g -/
def Op (X : Cx) (EX : WX) (r : R2) (g : G2) : Prop := ∀ (F : Addr → Prop) (σ : L2.St) (env : EnvQ) (S : Sto) (H : Hp) (μ : List Addr) (x y : V) (w u : W) (Q : VK), Sim X.K X.mg F σ H env S μ → RW X.K X.mg H (NN F μ σ env) μ x w → w.plain = true → RW X.K X.mg H (NN F μ σ env) μ y u → u.plain = true →
  Post X.K X.mg EX F σ env H μ (g w u S) (fun w _ H' μ' => ∀ v, RW X.K X.mg H' (NN F μ' σ env) μ' v w → Q v H') → r x y H Q
def fPl (a : SE) : SE := fun cf env S => (a cf env S).bind fun x S1 => if x.plain then .ok x S1 else .stuck
theorem tE_bin {r : R2} {g : G2} (o : Op X EX r g) (hp : ∀ w u S, w.plain = false ∨ u.plain = false → g w u S = .stuck) (σ : L2.St) (H : Hp) (Q : VK) (q : tE X.K X.mg cf EX (fBin g fa fb) σ H Q) : tOp r (tE X.K X.mg cf EX fa) (tE X.K X.mg cf EX fb) σ H Q := by
  obtain ⟨env, S, μ, F, s, q⟩ := q
  refine ⟨env, S, μ, F, s, (Post.bind q).mono fun w S1 H1 μ1 s1 x1 q1 v rv => ?_⟩
  refine ⟨env, S1, μ1, F, s1, (Post.bind q1).mono fun u S2 H2 μ2 s2 x2 q2 v2 rv2 => ?_⟩
  by_cases pw : w.plain = true
  · by_cases pu : u.plain = true
    · exact o F σ env S2 H2 μ2 v v2 w u Q s2 (RW.keep (x2.nn F) x2.pre rv pw) pw rv2 pu q2
    · rw [hp w u S2 (.inr (by simpa using pu))] at q2
      exact q2.elim
  · rw [hp w u S2 (.inl (by simpa using pw))] at q2
    exact q2.elim
theorem me_bin {op : Operator} {r : R2} {g : G2} (ho : OpR X (binaryOp op) r) (o : Op X EX r g) (hp : ∀ w u S, w.plain = false ∨ u.plain = false → g w u S = .stuck) (h1 : ME X cf EX a fa) (h2 : ME X cf EX b fb) : ME X cf EX (.BinOp a op b pos) (fBin g fa fb) :=
  PE.weak (pe_op ho h1 h2) (tE_bin o hp)
theorem me_cmp {op : CmpOp} {r : R2} {g : G2} (ho : OpR X (compareOp op) r) (o : Op X EX r g) (hp : ∀ w u S, w.plain = false ∨ u.plain = false → g w u S = .stuck) (h1 : ME X cf EX a fa) (h2 : ME X cf EX b fb) (hm : behindInMarks op b = false) : ME X cf EX (.Compare a [op] [b] pos) (fBin g fa fb) :=
  PE.weak (pe_cmpR ho h1 h2 hm) (tE_bin o hp)
/-- ints -/
theorem rw_int {K : PySem.W.Frag} {mg : Str → Option Value} {H : Hp} {N : Addr → Prop} {μ : List Addr} {v : V} {i : Int} (h : RW K mg H N μ v (.d (.int i))) : v = .int i := by
  cases h with | d h => cases h; rfl
theorem rw_bl {K : PySem.W.Frag} {mg : Str → Option Value} {H : Hp} {N : Addr → Prop} {μ : List Addr} {v : V} {i : Bool} (h : RW K mg H N μ v (.d (.bool i))) : v = .bl i := by
  cases h with | d h => cases h; rfl
theorem rw_str {K : PySem.W.Frag} {mg : Str → Option Value} {H : Hp} {N : Addr → Prop} {μ : List Addr} {v : V} {i : Str} (h : RW K mg H N μ v (.d (.str i))) : v = .str i := by
  cases h with | d h => cases h; rfl
theorem lim_line : LIM = sizeLine := sizeLine_eq.symm
end
end Q

namespace Q
open PySem PySem.Spec PyProof.Rows L2
section
variable {X : Cx} {cf : CF} {EX : WX} {F : Addr → Prop} {K : PySem.W.Frag} {mg : Str → Option Value} {H : Hp} {N : Addr → Prop} {μ : List Addr} {v : V}
theorem rw_tup {xs : List D} (h : RW K mg H N μ v (.d (.tuple xs))) : ∃ a vs, v = .ref a ∧ RdT K H N a vs ∧ DnAll K H N vs xs := by
  cases h with | d h => cases h with | tup h t => exact ⟨_, _, rfl, h, t⟩
theorem rw_lst {xs : List D} (h : RW K mg H N μ v (.d (.list xs))) : ∃ a vs, v = .ref a ∧ ¬ N a ∧ H a = some (.lst vs) ∧ DnAll K H N vs xs := by
  cases h with | d h => cases h with | lst h t => exact ⟨_, _, rfl, h.1, h.2, t⟩
/-- a new tuple, a new list -/
theorem post_tup {α : Type} {σ : L2.St} {env : EnvQ} {S : Sto} {xs : List D} {vs : List V} {P : V → Hp → Prop} (s : Sim K mg F σ H env S μ) (t : DnAll K H (NN F μ σ env) vs xs)
    (q : Post K mg EX F σ env H μ (.ok (.d (.tuple xs)) S) (fun w _ H' μ' => ∀ v, RW K mg H' (NN F μ' σ env) μ' v w → P v H')) {p : Addr} (n : H p = none) : P (.ref p) (upd H p (.tup vs)) :=
  q _ μ (s.new n) (ext_new n) _ (.d (.tup (.inl ⟨s.fresh n, .inl upd_same⟩) (t.keep (Keep.upd_new n))))
theorem post_lst {σ : L2.St} {env : EnvQ} {S : Sto} {xs : List D} {vs : List V} {P : V → Hp → Prop} (s : Sim K mg F σ H env S μ) (t : DnAll K H (NN F μ σ env) vs xs)
    (q : Post K mg EX F σ env H μ (.ok (.d (.list xs)) S) (fun w _ H' μ' => ∀ v, RW K mg H' (NN F μ' σ env) μ' v w → P v H')) {p : Addr} (n : H p = none) : P (.ref p) (upd H p (.lst vs)) :=
  q _ μ (s.new n) (ext_new n) _ (.d (.lst ⟨s.fresh n, upd_same⟩ (t.keep (Keep.upd_new n))))
theorem post_here {σ : L2.St} {env : EnvQ} {S : Sto} {w : W} {P : V → Hp → Prop} (s : Sim K mg F σ H env S μ) (r : RW K mg H (NN F μ σ env) μ v w)
    (q : Post K mg EX F σ env H μ (.ok w S) (fun w _ H' μ' => ∀ v, RW K mg H' (NN F μ' σ env) μ' v w → P v H')) : P v H := q H μ s (Ext.refl _ _ _ _) v r

theorem o_add : Op X EX (fun x y H Q => (rI0 fun i j => .int (i + j)) x y H Q ∨ (∃ i j, x = .str i ∧ y = .str j ∧ i.length + j.length ≤ sizeLine ∧ Q (.str (i ++ j)) H) ∨ rCatA X.K x y H Q ∨ rCat x y H Q) gAdd := by
  intro F σ env S H μ x y w u Q s rx pw ry pu q
  unfold gAdd at q
  split at q
  · rw [rw_int rx, rw_int ry]
    exact .inl ⟨_, _, rfl, rfl, post_here s (.d (.int _)) q⟩
  · rw [rw_str rx, rw_str ry]
    split at q
    · rename_i h
      exact .inr (.inl ⟨_, _, rfl, rfl, by rw [← lim_line]; exact h, post_here s (.d (.str _)) q⟩)
    · exact q.elim
  · obtain ⟨a, vs, rfl, ha, ta⟩ := rw_tup rx
    obtain ⟨b, us, rfl, hb, tb⟩ := rw_tup ry
    split at q
    · rename_i h
      refine .inr (.inr (.inl ⟨a, b, vs, us, rfl, rfl, ha.sq, hb.sq, by rw [← lim_line, ta.length, tb.length]; exact h, fun e => ?_, fun e1 e2 => ?_, fun _ _ p n => post_tup (α := Unit) s (ta.append tb) q n⟩))
      · subst e
        cases ta
        exact post_here s ry q
      · subst e2
        cases tb
        rw [List.append_nil] at q
        exact post_here s rx q
    · exact q.elim
  · obtain ⟨a, vs, rfl, na, ha, ta⟩ := rw_lst rx
    obtain ⟨b, us, rfl, nb, hb, tb⟩ := rw_lst ry
    split at q
    · rename_i h
      exact .inr (.inr (.inr ⟨a, b, vs, us, rfl, rfl, ha, hb, by rw [← lim_line, ta.length, tb.length]; exact h, fun p n => post_lst s (ta.append tb) q n⟩))
    · exact q.elim
  · exact q.elim
theorem g_plain (g : G2) (h : ∀ w u S, g w u S ≠ .stuck → w.plain = true ∧ u.plain = true) : ∀ w u S, w.plain = false ∨ u.plain = false → g w u S = .stuck := by
  intro w u S e
  by_cases k : g w u S = .stuck
  · exact k
  · obtain ⟨h1, h2⟩ := h w u S k
    rcases e with e | e
    · rw [h1] at e; cases e
    · rw [h2] at e; cases e
theorem gp_add : ∀ w u S, w.plain = false ∨ u.plain = false → gAdd w u S = .stuck := g_plain _ fun w u S k => by
  unfold gAdd at k
  split at k <;> first | exact ⟨rfl, rfl⟩ | exact absurd rfl k
theorem me_add {a b : Expr} {fa fb : SE} {pos : Pos} (h1 : ME X cf EX a fa) (h2 : ME X cf EX b fb) : ME X cf EX (.BinOp a .Add b pos) (fBin gAdd fa fb) :=
  me_bin (OpR.or op_add (OpR.or op_add_str (OpR.or op_catA op_cat))) o_add gp_add h1 h2
/-- ints -/
theorem o_int {C : Int → Int → Prop} {g : Int → Int → V} {gg : G2} (h : ∀ w u S, (∃ i j, w = .d (.int i) ∧ u = .d (.int j) ∧ C i j ∧ ∃ x, (∀ H N, Dn X.K H N (g i j) x) ∧ gg w u S = .ok (.d x) S) ∨ gg w u S = .stuck) : Op X EX (rI C g) gg := by
  intro F σ env S H μ x y w u Q s rx pw ry pu q
  rcases h w u S with ⟨i, j, rfl, rfl, c, z, r, e⟩ | e
  · rw [e] at q
    rw [rw_int rx, rw_int ry]
    exact ⟨i, j, rfl, rfl, c, post_here s (.d (r _ _)) q⟩
  · rw [e] at q
    exact q.elim
theorem o_int0 {g : Int → Int → V} {gg : G2} (h : ∀ w u S, (∃ i j, w = .d (.int i) ∧ u = .d (.int j) ∧ ∃ x, (∀ H N, Dn X.K H N (g i j) x) ∧ gg w u S = .ok (.d x) S) ∨ gg w u S = .stuck) : Op X EX (rI0 g) gg := by
  intro F σ env S H μ x y w u Q s rx pw ry pu q
  rcases h w u S with ⟨i, j, rfl, rfl, z, r, e⟩ | e
  · rw [e] at q
    rw [rw_int rx, rw_int ry]
    exact ⟨i, j, rfl, rfl, post_here s (.d (r _ _)) q⟩
  · rw [e] at q
    exact q.elim
theorem gp_int {gg : G2} (h : ∀ w u S, gg w u S ≠ .stuck → ∃ i j, w = .d (.int i) ∧ u = .d (.int j)) : ∀ w u S, w.plain = false ∨ u.plain = false → gg w u S = .stuck := g_plain _ fun w u S k => by
  obtain ⟨i, j, rfl, rfl⟩ := h w u S k
  exact ⟨rfl, rfl⟩
section
variable {a b : Expr} {fa fb : SE} {pos : Pos}
theorem me_sub (h1 : ME X cf EX a fa) (h2 : ME X cf EX b fb) : ME X cf EX (.BinOp a .Sub b pos) (fBin gSub fa fb) := by
  refine me_bin op_sub (o_int0 fun w u S => ?_) (gp_int fun w u S k => ?_) h1 h2
  · unfold gSub
    split
    · exact .inl ⟨_, _, rfl, rfl, _, fun _ _ => .int _, rfl⟩
    · exact .inr rfl
  · unfold gSub at k
    split at k
    · exact ⟨_, _, rfl, rfl⟩
    · exact absurd rfl k
theorem sm_ok {i j : Int} (h : (sm i || sm j) = true) : CMul i j := by
  rw [Bool.or_eq_true] at h
  exact h.elim (fun h => .inl (sm_iff h)) fun h => .inr (sm_iff h)
theorem me_mod (h1 : ME X cf EX a fa) (h2 : ME X cf EX b fb) : ME X cf EX (.BinOp a .Mod b pos) (fBin gMod fa fb) := by
  refine me_bin op_mod (o_int fun w u S => ?_) (gp_int fun w u S k => ?_) h1 h2
  · unfold gMod
    split
    · split
      · rename_i h
        exact .inl ⟨_, _, rfl, rfl, h, _, fun _ _ => .int _, rfl⟩
      · exact .inr rfl
    · exact .inr rfl
  · unfold gMod at k
    split at k
    · exact ⟨_, _, rfl, rfl⟩
    · exact absurd rfl k
theorem me_div (h1 : ME X cf EX a fa) (h2 : ME X cf EX b fb) : ME X cf EX (.BinOp a .FloorDiv b pos) (fBin gDiv fa fb) := by
  refine me_bin op_fdiv (o_int fun w u S => ?_) (gp_int fun w u S k => ?_) h1 h2
  · unfold gDiv
    split
    · split
      · rename_i h
        exact .inl ⟨_, _, rfl, rfl, ⟨h.1, by have := Nat.le_of_ble_eq_true h.2; omega⟩, _, fun _ _ => .int _, rfl⟩
      · exact .inr rfl
    · exact .inr rfl
  · unfold gDiv at k
    split at k
    · exact ⟨_, _, rfl, rfl⟩
    · exact absurd rfl k
theorem me_pow (h1 : ME X cf EX a fa) (h2 : ME X cf EX b fb) : ME X cf EX (.BinOp a .Pow b pos) (fBin gPow fa fb) := by
  refine me_bin op_pow (o_int fun w u S => ?_) (gp_int fun w u S k => ?_) h1 h2
  · unfold gPow
    split
    · split
      · rename_i h
        exact .inl ⟨_, _, rfl, rfl, h, _, fun _ _ => .int _, rfl⟩
      · exact .inr rfl
    · exact .inr rfl
  · unfold gPow at k
    split at k
    · exact ⟨_, _, rfl, rfl⟩
    · exact absurd rfl k
/-- products: of ints, a list so often, a tuple so often -/
def gMul2 : G2
  | .d (.int i), .d (.int j), S => if sm i || sm j then .ok (.d (.int (i * j))) S else .stuck
  | .d (.list xs), .d (.int k), S => if -(2 ^ 63) ≤ k ∧ k < 2 ^ 63 ∧ xs.length * k.toNat ≤ LIM then .ok (.d (.list (List.replicate k.toNat xs).flatten)) S else .stuck
  | .d (.tuple xs), .d (.int k), S => if xs ≠ [] ∧ 2 ≤ k ∧ k ≤ 1000 ∧ xs.length ≤ 1000 then .ok (.d (.tuple (List.replicate k.toNat xs).flatten)) S else .stuck
  | _, _, _ => .stuck
theorem DnAll.rep {vs : List V} {xs : List D} (t : DnAll K H N vs xs) : ∀ n : Nat, DnAll K H N (List.replicate n vs).flatten (List.replicate n xs).flatten
  | 0 => by simpa using DnAll.nil
  | n + 1 => by
    rw [List.replicate_succ, List.replicate_succ, List.flatten_cons, List.flatten_cons]
    exact t.append (DnAll.rep t n)
theorem o_mul : Op X EX (fun x y H Q => (rI CMul fun i j => .int (i * j)) x y H Q ∨ rRep x y H Q ∨ rRepT X.K x y H Q) gMul2 := by
  intro F σ env S H μ x y w u Q s rx pw ry pu q
  unfold gMul2 at q
  split at q
  · rw [rw_int rx, rw_int ry]
    split at q
    · rename_i h
      exact .inl ⟨_, _, rfl, rfl, sm_ok h, post_here s (.d (.int _)) q⟩
    · exact q.elim
  · obtain ⟨a, vs, rfl, na, ha, ta⟩ := rw_lst rx
    rw [rw_int ry]
    split at q
    · rename_i h
      exact .inr (.inl ⟨a, _, vs, rfl, rfl, ha, h.1, h.2.1, by rw [← lim_line, ta.length]; exact h.2.2, fun p n => post_lst s (ta.rep _) q n⟩)
    · exact q.elim
  · obtain ⟨a, vs, rfl, ha, ta⟩ := rw_tup rx
    rw [rw_int ry]
    split at q
    · rename_i h
      refine .inr (.inr ⟨a, _, vs, rfl, rfl, ha.sq, fun e => h.1 ?_, h.2.1, h.2.2.1, by rw [ta.length]; exact h.2.2.2, fun p n => post_tup (α := Unit) s (ta.rep _) q n⟩)
      subst e
      cases ta
      rfl
    · exact q.elim
  · exact q.elim
theorem gp_mul : ∀ w u S, w.plain = false ∨ u.plain = false → gMul2 w u S = .stuck := g_plain _ fun w u S k => by
  unfold gMul2 at k
  split at k <;> first | exact ⟨rfl, rfl⟩ | exact absurd rfl k
theorem me_mul (h1 : ME X cf EX a fa) (h2 : ME X cf EX b fb) : ME X cf EX (.BinOp a .Mult b pos) (fBin gMul2 fa fb) :=
  me_bin (OpR.or op_mul (OpR.or op_rep op_repT)) o_mul gp_mul h1 h2
/-- order -/
theorem o_cmp {p : Int → Int → Bool} : Op X EX (rI0 fun i j => .bl (p i j)) (gCmp p) := o_int0 fun w u S => by
  unfold gCmp
  split
  · exact .inl ⟨_, _, rfl, rfl, _, fun _ _ => .bl _, rfl⟩
  · exact .inr rfl
theorem gp_cmp {p : Int → Int → Bool} : ∀ w u S, w.plain = false ∨ u.plain = false → gCmp p w u S = .stuck := gp_int fun w u S k => by
  unfold gCmp at k
  split at k
  · exact ⟨_, _, rfl, rfl⟩
  · exact absurd rfl k
theorem me_lt (h1 : ME X cf EX a fa) (h2 : ME X cf EX b fb) : ME X cf EX (.Compare a [.Lt] [b] pos) (fBin gLt fa fb) := me_cmp op_lt o_cmp gp_cmp h1 h2 (nomark _)
theorem me_le (h1 : ME X cf EX a fa) (h2 : ME X cf EX b fb) : ME X cf EX (.Compare a [.LtE] [b] pos) (fBin gLe fa fb) := me_cmp op_le o_cmp gp_cmp h1 h2 (nomark _)
theorem me_gt (h1 : ME X cf EX a fa) (h2 : ME X cf EX b fb) : ME X cf EX (.Compare a [.Gt] [b] pos) (fBin gGt fa fb) := me_cmp op_gt o_cmp gp_cmp h1 h2 (nomark _)
theorem me_ge (h1 : ME X cf EX a fa) (h2 : ME X cf EX b fb) : ME X cf EX (.Compare a [.GtE] [b] pos) (fBin gGe fa fb) := me_cmp op_ge o_cmp gp_cmp h1 h2 (nomark _)
/-- == of data -/
theorem noDict_of {d : D} (h : d.canLay0 = true) : d.hasDict = false := PyData.hasDict_of_canLay d h
theorem dn_dp {x : V} {d : D} (h : Dn K H N x d) (e : okEq d = true) : Dp K H x d ∧ SeqAt.shaped d = true := by
  have e' : (d.canLay0 && decide (d.depth ≤ 64)) = true := e
  refine ⟨Dn.dp h (fun kvs q => ?_) (noDict_of (by rw [Bool.and_eq_true] at e'; exact e'.1)), e'⟩
  subst q
  simp [PyData.canLay0] at e'
theorem o_eq : Op X EX (fun x y H Q => rEqD X.K x y H Q ∨ rEq x y H Q) gEq := by
  intro F σ env S H μ x y w u Q s rx pw ry pu q
  unfold gEq at q
  split at q
  · rename_i a b S
    cases rx with
    | d hx =>
      cases ry with
      | d hy =>
        cases hx
        cases hy
        refine .inr ⟨rfl, post_here (EX := EX) s (.d (.bl _)) ?_⟩
        simpa [V.str.injEq] using q
  · split at q
    · rename_i h
      rw [Bool.and_eq_true] at h
      cases rx with
      | d hx =>
        cases ry with
        | d hy =>
          obtain ⟨p1, s1⟩ := dn_dp hx h.1
          obtain ⟨p2, s2⟩ := dn_dp hy h.2
          exact .inl ⟨_, _, p1, p2, s1, s2, post_here s (.d (.bl _)) q⟩
    · exact q.elim
  · exact q.elim
theorem o_ne : Op X EX (fun x y H Q => rNeD X.K x y H Q ∨ rNe x y H Q) gNe := by
  intro F σ env S H μ x y w u Q s rx pw ry pu q
  unfold gNe at q
  split at q
  · rename_i a b S
    cases rx with
    | d hx =>
      cases ry with
      | d hy =>
        cases hx
        cases hy
        refine .inr ⟨rfl, post_here (EX := EX) s (.d (.bl _)) ?_⟩
        simpa [V.str.injEq] using q
  · split at q
    · rename_i h
      rw [Bool.and_eq_true] at h
      cases rx with
      | d hx =>
        cases ry with
        | d hy =>
          obtain ⟨p1, s1⟩ := dn_dp hx h.1
          obtain ⟨p2, s2⟩ := dn_dp hy h.2
          exact .inl ⟨_, _, p1, p2, s1, s2, post_here s (.d (.bl _)) q⟩
    · exact q.elim
  · exact q.elim
theorem gp_eq : ∀ w u S, w.plain = false ∨ u.plain = false → gEq w u S = .stuck := g_plain _ fun w u S k => by
  unfold gEq at k
  split at k <;> first | exact ⟨rfl, rfl⟩ | exact absurd rfl k
theorem gp_ne : ∀ w u S, w.plain = false ∨ u.plain = false → gNe w u S = .stuck := g_plain _ fun w u S k => by
  unfold gNe at k
  split at k <;> first | exact ⟨rfl, rfl⟩ | exact absurd rfl k
theorem op_eqU {k : Nat} (hr : Room k X.A) : OpR X (compareOp .Eq) (fun x y H Q => rEqD X.K x y H Q ∨ rEq x y H Q) := fun pins s σ H x y v u Q I rx ry h => h.elim (op_eqD hr.units pins s σ H x y v u Q I rx ry) (op_eq pins s σ H x y v u Q I rx ry)
theorem op_neU {k : Nat} (hr : Room k X.A) : OpR X (compareOp .NotEq) (fun x y H Q => rNeD X.K x y H Q ∨ rNe x y H Q) := fun pins s σ H x y v u Q I rx ry h => h.elim (op_neD hr.units pins s σ H x y v u Q I rx ry) (op_ne pins s σ H x y v u Q I rx ry)
theorem me_eq {k : Nat} (hr : Room k X.A) (h1 : ME X cf EX a fa) (h2 : ME X cf EX b fb) : ME X cf EX (.Compare a [.Eq] [b] pos) (fBin gEq fa fb) := me_cmp (op_eqU hr) o_eq gp_eq h1 h2 (nomark _)
theorem me_ne {k : Nat} (hr : Room k X.A) (h1 : ME X cf EX a fa) (h2 : ME X cf EX b fb) : ME X cf EX (.Compare a [.NotEq] [b] pos) (fBin gNe fa fb) := me_cmp (op_neU hr) o_ne gp_ne h1 h2 (nomark _)
end
end
end Q

namespace Q
open PySem PySem.Spec PyProof.Rows L2
section
variable {X : Cx} {cf : CF} {EX : WX} {F : Addr → Prop} {e a b c : Expr} {es : List Expr} {fa fb fc : SE} {ga gb gc : ST} {ha hb : SA} {pos p : Pos} {x : Str}

theorem mt_val (h : ME X cf EX e fa) (he : ∀ whole, isTrue e X.env whole = (do let v ← whole; standAt e.pos; holding [v] (truthy v)) := by intro _; rfl) : MT X cf EX e (cVal fa) :=
  PT.weak (pt_val h he) fun σ H Q ⟨env, S, μ, F, s, q⟩ => ⟨env, S, μ, F, s, (Post.bind q).mono fun w S1 H1 μ1 s1 x1 q1 v rv => by
    split at q1
    · exact ⟨_, rw_bl rv, q1 H1 μ1 s1 (Ext.refl _ _ _ _)⟩
    · exact q1.elim⟩
/-- a comparison as a test -/
theorem mt_cmp {op : CmpOp} {r : R2} {g : G2} (ho : OpR X (compareOp op) r) (o : Op X EX r g) (hp : ∀ w u S, w.plain = false ∨ u.plain = false → g w u S = .stuck) (h1 : ME X cf EX a fa) (h2 : ME X cf EX b fb) (hm : behindInMarks op b = false) : MT X cf EX (.Compare a [op] [b] pos) (cVal (fBin g fa fb)) :=
  PT.weak (pt_cmpR ho h1 h2 hm) fun σ H Q ⟨env, S, μ, F, s, q⟩ => tE_bin o hp σ H _ ⟨env, S, μ, F, s, (Post.bind q).mono fun w S1 H1 μ1 s1 x1 q1 v rv => by
    split at q1
    · exact ⟨_, rw_bl rv, q1 H1 μ1 s1 (Ext.refl _ _ _ _)⟩
    · exact q1.elim⟩
/-- comparisons, by one fact each -/
structure Cm (X : Cx) (EX : WX) (op : CmpOp) (g : G2) : Prop where
  ex : ∃ r, OpR X (compareOp op) r ∧ Op X EX r g
  pl : ∀ w u S, w.plain = false ∨ u.plain = false → g w u S = .stuck
theorem cm_lt : Cm X EX .Lt gLt := ⟨⟨_, op_lt, o_cmp⟩, gp_cmp⟩
theorem cm_le : Cm X EX .LtE gLe := ⟨⟨_, op_le, o_cmp⟩, gp_cmp⟩
theorem cm_gt : Cm X EX .Gt gGt := ⟨⟨_, op_gt, o_cmp⟩, gp_cmp⟩
theorem cm_ge : Cm X EX .GtE gGe := ⟨⟨_, op_ge, o_cmp⟩, gp_cmp⟩
theorem cm_eq {k : Nat} (hr : Room k X.A) : Cm X EX .Eq gEq := ⟨⟨_, op_eqU hr, o_eq⟩, gp_eq⟩
theorem cm_ne {k : Nat} (hr : Room k X.A) : Cm X EX .NotEq gNe := ⟨⟨_, op_neU hr, o_ne⟩, gp_ne⟩
theorem me_c {op : CmpOp} {g : G2} (h : Cm X EX op g) (h1 : ME X cf EX a fa) (h2 : ME X cf EX b fb) (hm : behindInMarks op b = false) : ME X cf EX (.Compare a [op] [b] pos) (fBin g fa fb) :=
  let ⟨_, ho, o⟩ := h.ex; me_cmp ho o h.pl h1 h2 hm
theorem mt_c {op : CmpOp} {g : G2} (h : Cm X EX op g) (h1 : ME X cf EX a fa) (h2 : ME X cf EX b fb) (hm : behindInMarks op b = false) : MT X cf EX (.Compare a [op] [b] pos) (cVal (fBin g fa fb)) :=
  let ⟨_, ho, o⟩ := h.ex; mt_cmp ho o h.pl h1 h2 hm
/-- a < b < c -/
def fChain (g g' : G2) (a b c : SE) : SE := fun cf env S => (a cf env S).bind fun x S1 => (b cf env S1).bind fun y S2 => (g x y S2).bind fun z S3 => match z with
  | .d (.bool k) => if k = true then (c cf env S3).bind fun w S4 => g' y w S4 else .ok (.d (.bool false)) S3
  | _ => .stuck
theorem tE_chain {r r' : R2} {g g' : G2} (o : Op X EX r g) (o' : Op X EX r' g') (hp : ∀ w u S, w.plain = false ∨ u.plain = false → g w u S = .stuck) (hp' : ∀ w u S, w.plain = false ∨ u.plain = false → g' w u S = .stuck)
    (σ : L2.St) (H : Hp) (Q : VK) (q : tE X.K X.mg cf EX (fChain g g' fa fb fc) σ H Q) : tChain r r' (tE X.K X.mg cf EX fa) (tE X.K X.mg cf EX fb) (tE X.K X.mg cf EX fc) σ H Q := by
  obtain ⟨env, S, μ, F, s, q⟩ := q
  refine ⟨env, S, μ, F, s, (Post.bind q).mono fun w S1 H1 μ1 s1 x1 q1 v rv => ?_⟩
  refine ⟨env, S1, μ1, F, s1, (Post.bind q1).mono fun u S2 H2 μ2 s2 x2 q2 v2 rv2 => ?_⟩
  have pl : w.plain = true ∧ u.plain = true := by
    by_cases pw : w.plain = true
    · by_cases pu : u.plain = true
      · exact ⟨pw, pu⟩
      · rw [hp w u S2 (.inr (by simpa using pu))] at q2
        exact q2.elim
    · rw [hp w u S2 (.inl (by simpa using pw))] at q2
      exact q2.elim
  refine o F σ env S2 H2 μ2 v v2 w u _ s2 (RW.keep (x2.nn F) x2.pre rv pl.1) pl.1 rv2 pl.2 ((Post.bind q2).mono fun z S3 H3 μ3 s3 x3 q3 v3 rv3 => ?_)
  split at q3
  · rename_i k
    refine ⟨k, rw_bl rv3, ?_⟩
    cases k with
    | false =>
      rw [if_neg Bool.false_ne_true] at q3 ⊢
      exact post_here s3 (.d (.bl false)) q3
    | true =>
      rw [if_pos rfl] at q3 ⊢
      refine ⟨env, S3, μ3, F, s3, (Post.bind q3).mono fun t S4 H4 μ4 s4 x4 q4 v4 rv4 => ?_⟩
      by_cases pt : t.plain = true
      · exact o' F σ env S4 H4 μ4 v2 v4 u t Q s4 (RW.keep ((x3.nn F).trans (x4.nn F)) (List.IsPrefix.trans x3.pre x4.pre) rv2 pl.2) pl.2 rv4 pt q4
      · rw [hp' u t S4 (.inr (by simpa using pt))] at q4
        exact q4.elim
  · exact q3.elim
theorem me_chain {op op' : CmpOp} {g g' : G2} (h : Cm X EX op g) (h' : Cm X EX op' g') (h1 : ME X cf EX a fa) (h2 : ME X cf EX b fb) (h3 : ME X cf EX c fc) (hm : lastMarks [op, op'] [b, c] = false := by rfl) :
    ME X cf EX (.Compare a [op, op'] [b, c] pos) (fChain g g' fa fb fc) := by
  obtain ⟨_, ho, o⟩ := h.ex
  obtain ⟨_, ho', o'⟩ := h'.ex
  exact PE.weak (pe_chain ho ho' h1 h2 h3 hm) (tE_chain o o' h.pl h'.pl)
theorem mt_chain {op op' : CmpOp} {g g' : G2} (h : Cm X EX op g) (h' : Cm X EX op' g') (h1 : ME X cf EX a fa) (h2 : ME X cf EX b fb) (h3 : ME X cf EX c fc) (hm : lastMarks [op, op'] [b, c] = false := by rfl) :
    MT X cf EX (.Compare a [op, op'] [b, c] pos) (cVal (fChain g g' fa fb fc)) := by
  obtain ⟨_, ho, o⟩ := h.ex
  obtain ⟨_, ho', o'⟩ := h'.ex
  exact PT.weak (pt_chain ho ho' h1 h2 h3 hm) fun σ H Q ⟨env, S, μ, F, s, q⟩ => tE_chain o o' h.pl h'.pl σ H _ ⟨env, S, μ, F, s, (Post.bind q).mono fun w S1 H1 μ1 s1 x1 q1 v rv => by
    split at q1
    · exact ⟨_, rw_bl rv, q1 H1 μ1 s1 (Ext.refl _ _ _ _)⟩
    · exact q1.elim⟩
theorem mt_not (h : MT X cf EX a ga) : MT X cf EX (.UnaryOp .Not a pos) (cNot ga) :=
  PT.weak (pt_not h) fun σ H Q ⟨env, S, μ, F, s, q⟩ => ⟨env, S, μ, F, s, (Post.bind q).mono fun w S1 H1 μ1 s1 x1 q1 => q1 H1 μ1 s1 (Ext.refl _ _ _ _)⟩
theorem mw_and1 (h : MT X cf EX a ga) : MW X cf EX (.BoolOp .And [a] pos) ga := pw_and1 h
theorem mw_or1 (h : MT X cf EX a ga) : MW X cf EX (.BoolOp .Or [a] pos) ga := pw_or1 h
theorem mw_and {rest : List Expr} (h1 : MT X cf EX a ga) (h2 : MW X cf EX (.BoolOp .And (b :: rest) pos) gb) : MW X cf EX (.BoolOp .And (a :: b :: rest) pos) (cAnd ga gb) :=
  PW.weak (pw_and h1 h2) fun σ H Q ⟨env, S, μ, F, s, q⟩ => ⟨env, S, μ, F, s, (Post.bind q).mono fun w S1 H1 μ1 s1 x1 q1 => by
    cases w with
    | true => rw [if_pos rfl] at q1 ⊢; exact ⟨env, S1, μ1, F, s1, q1⟩
    | false => rw [if_neg Bool.false_ne_true] at q1 ⊢; exact q1 H1 μ1 s1 (Ext.refl _ _ _ _)⟩
theorem mw_or {rest : List Expr} (h1 : MT X cf EX a ga) (h2 : MW X cf EX (.BoolOp .Or (b :: rest) pos) gb) : MW X cf EX (.BoolOp .Or (a :: b :: rest) pos) (cOr ga gb) :=
  PW.weak (pw_or h1 h2) fun σ H Q ⟨env, S, μ, F, s, q⟩ => ⟨env, S, μ, F, s, (Post.bind q).mono fun w S1 H1 μ1 s1 x1 q1 => by
    cases w with
    | false => rw [if_neg Bool.false_ne_true] at q1 ⊢; exact ⟨env, S1, μ1, F, s1, q1⟩
    | true => rw [if_pos rfl] at q1 ⊢; exact q1 H1 μ1 s1 (Ext.refl _ _ _ _)⟩
theorem mt_w (h : MW X cf EX a ga) : MT X cf EX a ga := PW.pt h
theorem me_one {op} (h : ME X cf EX a fa) : ME X cf EX (.BoolOp op [a] pos) fa := pe_one h
theorem me_and {rest : List Expr} (h1 : ME X cf EX a fa) (h2 : ME X cf EX (.BoolOp .And (b :: rest) pos) fb) : ME X cf EX (.BoolOp .And (a :: b :: rest) pos) (fAnd fa fb) :=
  PE.weak (pe_and h1 h2) fun σ H Q ⟨env, S, μ, F, s, q⟩ => ⟨env, S, μ, F, s, (Post.bind q).mono fun w S1 H1 μ1 s1 x1 q1 v rv => by
    split at q1
    · rename_i k
      refine ⟨k, rw_bl rv, ?_⟩
      cases k with
      | true => rw [if_pos rfl] at q1 ⊢; exact ⟨env, S1, μ1, F, s1, q1⟩
      | false => rw [if_neg Bool.false_ne_true] at q1 ⊢; exact post_here s1 (.d (.bl false)) q1
    · exact q1.elim⟩
theorem me_or {rest : List Expr} (h1 : ME X cf EX a fa) (h2 : ME X cf EX (.BoolOp .Or (b :: rest) pos) fb) : ME X cf EX (.BoolOp .Or (a :: b :: rest) pos) (fOr fa fb) :=
  PE.weak (pe_or h1 h2) fun σ H Q ⟨env, S, μ, F, s, q⟩ => ⟨env, S, μ, F, s, (Post.bind q).mono fun w S1 H1 μ1 s1 x1 q1 v rv => by
    split at q1
    · rename_i k
      refine ⟨k, rw_bl rv, ?_⟩
      cases k with
      | false => rw [if_neg Bool.false_ne_true] at q1 ⊢; exact ⟨env, S1, μ1, F, s1, q1⟩
      | true => rw [if_pos rfl] at q1 ⊢; exact post_here s1 (.d (.bl true)) q1
    · exact q1.elim⟩
theorem me_not (h : ME X cf EX a fa) : ME X cf EX (.UnaryOp .Not a pos) (fNot fa) :=
  PE.weak (pe_not h) fun σ H Q ⟨env, S, μ, F, s, q⟩ => ⟨env, S, μ, F, s, (Post.bind q).mono fun w S1 H1 μ1 s1 x1 q1 v rv => by
    split at q1
    · exact ⟨_, rw_bl rv, post_here s1 (.d (.bl _)) q1⟩
    · exact q1.elim⟩
theorem me_if (h : MT X cf EX c gc) (h1 : ME X cf EX a fa) (h2 : ME X cf EX b fb) : ME X cf EX (.IfExp c a b pos) (fIf gc fa fb) :=
  PE.weak (pe_ifExp h h1 h2) fun σ H Q ⟨env, S, μ, F, s, q⟩ => ⟨env, S, μ, F, s, (Post.bind q).mono fun w S1 H1 μ1 s1 x1 q1 => by
    cases w with
    | true => rw [if_pos rfl] at q1 ⊢; exact ⟨env, S1, μ1, F, s1, q1⟩
    | false => rw [if_neg Bool.false_ne_true] at q1 ⊢; exact ⟨env, S1, μ1, F, s1, q1⟩⟩
theorem rw_none {K : PySem.W.Frag} {mg : Str → Option Value} {H : Hp} {N : Addr → Prop} {μ : List Addr} {v : V} {w : W} (h : RW K mg H N μ v w) : decide (v = .non) = w.isNone := by
  cases h with
  | d h => cases h <;> simp [W.isNone]
  | _ => simp [W.isNone]
theorem me_isN {j pos'} (h : ME X cf EX a fa) : ME X cf EX (.Compare a [.Is] [.Constant .none j pos'] pos) (fIsNone fa) :=
  PE.weak (pe_cmp (pc_isN h) rfl) fun σ H Q ⟨env, S, μ, F, s, q⟩ => ⟨env, S, μ, F, s, (Post.bind q).mono fun w S1 H1 μ1 s1 x1 q1 v rv => by
    have e := rw_none rv
    simp only [e]
    exact post_here s1 (.d (.bl _)) q1⟩
theorem me_notN {j pos'} (h : ME X cf EX a fa) : ME X cf EX (.Compare a [.IsNot] [.Constant .none j pos'] pos) (fNotNone fa) :=
  PE.weak (pe_cmp (pc_notN h) rfl) fun σ H Q ⟨env, S, μ, F, s, q⟩ => ⟨env, S, μ, F, s, (Post.bind q).mono fun w S1 H1 μ1 s1 x1 q1 v rv => by
    have e := rw_none rv
    simp only [e]
    exact post_here s1 (.d (.bl _)) q1⟩
theorem mt_isN {j pos'} (h : ME X cf EX a fa) : MT X cf EX (.Compare a [.Is] [.Constant .none j pos'] pos) (cVal (fIsNone fa)) :=
  PT.weak (pt_cmp (pc_isN h) rfl) fun σ H Q ⟨env, S, μ, F, s, q⟩ => ⟨env, S, μ, F, s, (Post.bind (Post.bind q)).mono fun w S1 H1 μ1 s1 x1 q1 v rv => by
    have e := rw_none rv
    simp only [e]
    exact ⟨_, rfl, (q1 H1 μ1 s1 (Ext.refl _ _ _ _)) H1 μ1 s1 (Ext.refl _ _ _ _)⟩⟩
theorem mt_notN {j pos'} (h : ME X cf EX a fa) : MT X cf EX (.Compare a [.IsNot] [.Constant .none j pos'] pos) (cVal (fNotNone fa)) :=
  PT.weak (pt_cmp (pc_notN h) rfl) fun σ H Q ⟨env, S, μ, F, s, q⟩ => ⟨env, S, μ, F, s, (Post.bind (Post.bind q)).mono fun w S1 H1 μ1 s1 x1 q1 v rv => by
    have e := rw_none rv
    simp only [e]
    exact ⟨_, rfl, (q1 H1 μ1 s1 (Ext.refl _ _ _ _)) H1 μ1 s1 (Ext.refl _ _ _ _)⟩⟩
theorem me_neg (h : ME X cf EX a fa) : ME X cf EX (.UnaryOp .USub a pos) (fNeg fa) :=
  PE.weak (pe_un un_neg h) fun σ H Q ⟨env, S, μ, F, s, q⟩ => ⟨env, S, μ, F, s, (Post.bind q).mono fun w S1 H1 μ1 s1 x1 q1 v rv => by
    split at q1
    · exact ⟨_, rw_int rv, post_here s1 (.d (.int _)) q1⟩
    · exact q1.elim⟩

theorem ma_nil : MA X cf EX [] aNil := PA.weak pa_nil fun σ H Q ⟨env, S, μ, F, s, q⟩ => q H μ s (Ext.refl _ _ _ _) [] .nil
theorem ma_cons (h1 : ME X cf EX e fa) (h2 : MA X cf EX es ha) (hs : starEach (e :: es) X.env = (false, eval e X.env) :: starEach es X.env := by rfl) : MA X cf EX (e :: es) (aCons fa ha) :=
  PA.weak (pa_cons h1 h2 hs) fun σ H Q ⟨env, S, μ, F, s, q⟩ => ⟨env, S, μ, F, s, (Post.bind q).mono fun w S1 H1 μ1 s1 x1 q1 v rv => ⟨env, S1, μ1, F, s1, (Post.bind q1).mono fun ws S2 H2 μ2 s2 x2 q2 vs rvs => by
    split at q2
    · rename_i pw
      exact q2 H2 μ2 s2 (Ext.refl _ _ _ _) _ (.cons (RW.keep (x2.nn F) x2.pre rv pw) rvs)
    · exact q2.elim⟩⟩
theorem datas_dn {K : PySem.W.Frag} {mg : Str → Option Value} {H : Hp} {N : Addr → Prop} {μ : List Addr} : ∀ {vs : List V} {ws : List W} {ds : List D}, RWs K mg H N μ vs ws → datas ws = some ds → DnAll K H N vs ds
  | _, _, _, .nil, e => by
    simp only [datas, Option.some.injEq] at e
    subst e
    exact .nil
  | _, _, _, .cons (ws := ws) (.d h) t, e => by
    cases q : datas ws with
    | none => simp [datas, q] at e
    | some r =>
      simp only [datas, q, Option.map_some, Option.some.injEq] at e
      subst e
      exact .cons h (datas_dn t q)
  | _, _, _, .cons (.ref _) _, e => by simp [datas] at e
  | _, _, _, .cons (.own _ _) _, e => by simp [datas] at e
  | _, _, _, .cons (.tw _ _ _) _, e => by simp [datas] at e
  | _, _, _, .cons (.fn _) _, e => by simp [datas] at e
  | _, _, _, .cons (.scr _) _, e => by simp [datas] at e
theorem me_tup {k} (h : MA X cf EX es ha) : ME X cf EX (.Tuple es k pos) (fTup ha) :=
  PE.weak (pe_tup h) fun σ H Q ⟨env, S, μ, F, s, q⟩ => ⟨env, S, μ, F, s, (Post.bind q).mono fun ws S1 H1 μ1 s1 x1 q1 vs rvs => by
    split at q1
    · rename_i hl
      refine ⟨by rw [← lim_line, rvs.length]; exact hl, fun p n => ?_⟩
      split at q1
      · rename_i ds e
        exact post_tup (α := Unit) s1 (datas_dn rvs e) q1 n
      · exact q1 _ μ1 (s1.new n) (ext_new n) _ (.tw (s1.fresh n) upd_same (RWs.same (Same.upd_new n) rvs))
    · exact q1.elim⟩
theorem me_lst (h : MA X cf EX es ha) : ME X cf EX (.List es pos) (fLst ha) :=
  PE.weak (pe_lst h) fun σ H Q ⟨env, S, μ, F, s, q⟩ => ⟨env, S, μ, F, s, (Post.bind q).mono fun ws S1 H1 μ1 s1 x1 q1 vs rvs => by
    split at q1
    · rename_i hl
      refine ⟨by rw [← lim_line, rvs.length]; exact hl, fun p n => ?_⟩
      split at q1
      · rename_i ds e
        exact post_lst s1 (datas_dn rvs e) q1 n
      · exact q1.elim
    · exact q1.elim⟩

abbrev GN := List W → Sto → R W
def CallOp (X : Cx) (EX : WX) (r : List V → Hp → VK → Prop) (g : GN) : Prop := ∀ (F : Addr → Prop) (σ : L2.St) (env : EnvQ) (S : Sto) (H : Hp) (μ : List Addr) (vs : List V) (ws : List W) (Q : VK), Sim X.K X.mg F σ H env S μ → RWs X.K X.mg H (NN F μ σ env) μ vs ws →
  Post X.K X.mg EX F σ env H μ (g ws S) (fun w _ H' μ' => ∀ v, RW X.K X.mg H' (NN F μ' σ env) μ' v w → Q v H') → r vs H Q
def fB (g : GN) (a : SA) : SE := fun cf env S => (a cf env S).bind fun ws S1 => g ws S1
theorem me_callB {id : String} {r : List V → Hp → VK → Prop} {g : GN} (hc : CallR X (.builtin id) r) (o : CallOp X EX r g) (hg : Gl X x) (hm : X.mg x = none) (hv : bootBuiltins x = some (.builtin id)) (h : MA X cf EX (e :: es) ha) (hn : x ≠ "__name__" := by decide) (hdb : (x == ("__debug__" : Str)) = false := by decide)
    (he : starEach (e :: es) X.env = (false, eval e X.env) :: starEach es X.env := by rfl) (hpl : (backTo pos (starEach es X.env)).any (·.1) = false := by rfl) : ME X cf EX (.Call (.Name x p) (e :: es) [] pos) (fB g ha) :=
  PE.weak (pe_callB hc hg hm hv h hn hdb he hpl) fun σ H Q ⟨env, S, μ, F, s, q⟩ => ⟨env, S, μ, F, s, (Post.bind q).mono fun ws S1 H1 μ1 s1 x1 q1 vs rvs => o F σ env S1 H1 μ1 vs ws Q s1 rvs q1⟩
theorem me_callTy {T : String} {r : List V → Hp → VK → Prop} {g : GN} (hc : CallR X (.type T) r) (o : CallOp X EX r g) (hg : Gl X x) (hm : X.mg x = none) (hv : bootBuiltins x = some (.type T)) (h : MA X cf EX (e :: es) ha) (hn : x ≠ "__name__" := by decide) (hdb : (x == ("__debug__" : Str)) = false := by decide)
    (he : starEach (e :: es) X.env = (false, eval e X.env) :: starEach es X.env := by rfl) (hpl : (backTo pos (starEach es X.env)).any (·.1) = false := by rfl) : ME X cf EX (.Call (.Name x p) (e :: es) [] pos) (fB g ha) :=
  PE.weak (pe_callTy hc hg hm hv h hn hdb he hpl) fun σ H Q ⟨env, S, μ, F, s, q⟩ => ⟨env, S, μ, F, s, (Post.bind q).mono fun ws S1 H1 μ1 s1 x1 q1 vs rvs => o F σ env S1 H1 μ1 vs ws Q s1 rvs q1⟩
theorem rws1 {K : PySem.W.Frag} {mg : Str → Option Value} {H : Hp} {N : Addr → Prop} {μ : List Addr} {vs : List V} {w : W} (h : RWs K mg H N μ vs [w]) : ∃ v, vs = [v] ∧ RW K mg H N μ v w := by
  cases h with | cons h t => cases t; exact ⟨_, rfl, h⟩
theorem rws2 {K : PySem.W.Frag} {mg : Str → Option Value} {H : Hp} {N : Addr → Prop} {μ : List Addr} {vs : List V} {w u : W} (h : RWs K mg H N μ vs [w, u]) : ∃ v v', vs = [v, v'] ∧ RW K mg H N μ v w ∧ RW K mg H N μ v' u := by
  cases h with | cons h t => cases t with | cons h' t => cases t; exact ⟨_, _, rfl, h, h'⟩
/-- len -/
def gLen : GN
  | [.d (.tuple xs)], S => .ok (.d (.int xs.length)) S
  | [.d (.list xs)], S => .ok (.d (.int xs.length)) S
  | [.d (.str x)], S => if x.length ≤ LIM then .ok (.d (.int x.length)) S else .stuck
  | [.own xs], S => .ok (.d (.int xs.length)) S
  | [.scr xs], S => .ok (.d (.int xs.length)) S
  | _, _ => .stuck
theorem co_len : CallOp X EX (fun xs H Q => ∃ x n, xs = [x] ∧ LenV X.K x H n ∧ Q (.int n) H) gLen := by
  intro F σ env S H μ vs ws Q s rvs q
  unfold gLen at q
  split at q
  · obtain ⟨v, rfl, rv⟩ := rws1 rvs
    obtain ⟨a, us, rfl, ha, ta⟩ := rw_tup rv
    refine ⟨_, us.length, rfl, .inr ⟨_, ha.sq, rfl⟩, ?_⟩
    rw [ta.length]
    exact post_here s (.d (.int _)) q
  · obtain ⟨v, rfl, rv⟩ := rws1 rvs
    obtain ⟨a, us, rfl, na, ha, ta⟩ := rw_lst rv
    refine ⟨_, us.length, rfl, .inl ⟨_, SqL.of ha, rfl⟩, ?_⟩
    rw [ta.length]
    exact post_here s (.d (.int _)) q
  · obtain ⟨v, rfl, rv⟩ := rws1 rvs
    rw [rw_str rv]
    split at q
    · exact ⟨_, _, rfl, ⟨by rw [← lim_line]; assumption, rfl⟩, post_here s (.d (.int _)) q⟩
    · exact q.elim
  · obtain ⟨v, rfl, rv⟩ := rws1 rvs
    cases rv with
    | @own _ us _ ha ta =>
      refine ⟨_, us.length, rfl, .inl ⟨_, SqL.of ha, rfl⟩, ?_⟩
      rw [ta.length]
      exact post_here s (.d (.int _)) q
  · obtain ⟨v, rfl, rv⟩ := rws1 rvs
    cases rv with
    | scr ha =>
      refine ⟨_, _, rfl, .inl ⟨_, ha.sq, rfl⟩, ?_⟩
      rw [List.length_map]
      exact post_here s (.d (.int _)) q
  · exact q.elim
theorem me_len (hg : Gl X "len") (hm : X.mg "len" = none) (h : MA X cf EX [e] ha) (he : starEach [e] X.env = (false, eval e X.env) :: starEach [] X.env := by rfl) (hpl : (backTo pos (starEach [] X.env)).any (·.1) = false := by rfl) :
    ME X cf EX (.Call (.Name "len" p) [e] [] pos) (fB gLen ha) := me_callB call_len co_len hg hm boot_len h (he := he) (hpl := hpl)
/-- tuple(x), list(x) -/
def gTuple : GN
  | [.d (.tuple xs)], S => .ok (.d (.tuple xs)) S
  | [.d (.list xs)], S => .ok (.d (.tuple xs)) S
  | [.own xs], S => .ok (.d (.tuple xs)) S
  | _, _ => .stuck
def gList : GN
  | [.d (.tuple xs)], S => .ok (.d (.list xs)) S
  | [.d (.list xs)], S => .ok (.d (.list xs)) S
  | [.own xs], S => .ok (.d (.list xs)) S
  | _, _ => .stuck
theorem co_tuple : CallOp X EX (fun xs H Q => ∃ p ys, xs = [.ref p] ∧ ((SqL X.K H p ys ∧ ∀ l, H l = none → Q (.ref l) (upd H l (.tup ys))) ∨ (SqT X.K H p ys ∧ Q (.ref p) H))) gTuple := by
  intro F σ env S H μ vs ws Q s rvs q
  unfold gTuple at q
  split at q
  · obtain ⟨v, rfl, rv⟩ := rws1 rvs
    obtain ⟨a, us, rfl, ha, ta⟩ := rw_tup rv
    exact ⟨a, us, rfl, .inr ⟨ha.sq, post_here s rv q⟩⟩
  · obtain ⟨v, rfl, rv⟩ := rws1 rvs
    obtain ⟨a, us, rfl, na, ha, ta⟩ := rw_lst rv
    exact ⟨a, us, rfl, .inl ⟨SqL.of ha, fun l n => post_tup (α := Unit) s ta q n⟩⟩
  · obtain ⟨v, rfl, rv⟩ := rws1 rvs
    cases rv with
    | own ha ta => exact ⟨_, _, rfl, .inl ⟨SqL.of ha, fun l n => post_tup (α := Unit) s ta q n⟩⟩
  · exact q.elim
theorem co_list : CallOp X EX (fun xs H Q => ∃ p ys, xs = [.ref p] ∧ (SqL X.K H p ys ∨ SqT X.K H p ys) ∧ ∀ l, H l = none → Q (.ref l) (upd H l (.lst ys))) gList := by
  intro F σ env S H μ vs ws Q s rvs q
  unfold gList at q
  split at q
  · obtain ⟨v, rfl, rv⟩ := rws1 rvs
    obtain ⟨a, us, rfl, ha, ta⟩ := rw_tup rv
    exact ⟨a, us, rfl, .inr ha.sq, fun l n => post_lst s ta q n⟩
  · obtain ⟨v, rfl, rv⟩ := rws1 rvs
    obtain ⟨a, us, rfl, na, ha, ta⟩ := rw_lst rv
    exact ⟨a, us, rfl, .inl (SqL.of ha), fun l n => post_lst s ta q n⟩
  · obtain ⟨v, rfl, rv⟩ := rws1 rvs
    cases rv with
    | own ha ta => exact ⟨_, _, rfl, .inl (SqL.of ha), fun l n => post_lst s ta q n⟩
  · exact q.elim
theorem me_tuple (hg : Gl X "tuple") (hm : X.mg "tuple" = none) (h : MA X cf EX [e] ha) (he : starEach [e] X.env = (false, eval e X.env) :: starEach [] X.env := by rfl) (hpl : (backTo pos (starEach [] X.env)).any (·.1) = false := by rfl) :
    ME X cf EX (.Call (.Name "tuple" p) [e] [] pos) (fB gTuple ha) := me_callTy call_tuple_of co_tuple hg hm (by decide +kernel) h (he := he) (hpl := hpl)
theorem me_list (hg : Gl X "list") (hm : X.mg "list" = none) (h : MA X cf EX [e] ha) (he : starEach [e] X.env = (false, eval e X.env) :: starEach [] X.env := by rfl) (hpl : (backTo pos (starEach [] X.env)).any (·.1) = false := by rfl) :
    ME X cf EX (.Call (.Name "list" p) [e] [] pos) (fB gList ha) := me_callTy call_list_of co_list hg hm (by decide +kernel) h (he := he) (hpl := hpl)
/-- a list of truths, of whole numbers -/
def bools : List D → Option (List Bool)
  | [] => some []
  | .bool b :: ds => (bools ds).map (b :: ·)
  | _ => none
def intsOf : List D → Option (List Int)
  | [] => some []
  | .int b :: ds => (intsOf ds).map (b :: ·)
  | _ => none
theorem bools_dn {K : PySem.W.Frag} {H : Hp} {N : Addr → Prop} : ∀ {vs : List V} {ds : List D} {bs : List Bool}, DnAll K H N vs ds → bools ds = some bs → vs = bs.map V.bl
  | _, _, _, .nil, e => by
    simp only [bools, Option.some.injEq] at e
    subst e
    rfl
  | _, _, _, .cons (ds := ds) (.bl b) t, e => by
    cases q : bools ds with
    | none => simp [bools, q] at e
    | some r =>
      simp only [bools, q, Option.map_some, Option.some.injEq] at e
      subst e
      rw [List.map_cons, ← bools_dn t q]
  | _, _, _, .cons .non _, e => by simp [bools] at e
  | _, _, _, .cons (.int _) _, e => by simp [bools] at e
  | _, _, _, .cons (.str _) _, e => by simp [bools] at e
  | _, _, _, .cons (.lst _ _) _, e => by simp [bools] at e
  | _, _, _, .cons (.tup _ _) _, e => by simp [bools] at e
  | _, _, _, .cons (.dic _ _) _, e => by simp [bools] at e
theorem ints_dn {K : PySem.W.Frag} {H : Hp} {N : Addr → Prop} : ∀ {vs : List V} {ds : List D} {bs : List Int}, DnAll K H N vs ds → intsOf ds = some bs → vs = bs.map V.int
  | _, _, _, .nil, e => by
    simp only [intsOf, Option.some.injEq] at e
    subst e
    rfl
  | _, _, _, .cons (ds := ds) (.int b) t, e => by
    cases q : intsOf ds with
    | none => simp [intsOf, q] at e
    | some r =>
      simp only [intsOf, q, Option.map_some, Option.some.injEq] at e
      subst e
      rw [List.map_cons, ← ints_dn t q]
  | _, _, _, .cons .non _, e => by simp [intsOf] at e
  | _, _, _, .cons (.bl _) _, e => by simp [intsOf] at e
  | _, _, _, .cons (.str _) _, e => by simp [intsOf] at e
  | _, _, _, .cons (.lst _ _) _, e => by simp [intsOf] at e
  | _, _, _, .cons (.tup _ _) _, e => by simp [intsOf] at e
  | _, _, _, .cons (.dic _ _) _, e => by simp [intsOf] at e
theorem ints_all {K : PySem.W.Frag} {H : Hp} {N : Addr → Prop} : ∀ (is : List Int), DnAll K H N (is.map V.int) (is.map PyData.int)
  | [] => .nil
  | i :: is => .cons (.int i) (ints_all is)
def gAll : GN
  | [.d (.list xs)], S => match bools xs with | some bs => .ok (.d (.bool (bs.all id))) S | none => .stuck
  | _, _ => .stuck
def gAny : GN
  | [.d (.list xs)], S => match bools xs with | some bs => .ok (.d (.bool (bs.any id))) S | none => .stuck
  | _, _ => .stuck
def gSumL : GN
  | [.d (.list xs)], S => match intsOf xs with | some is => .ok (.d (.int is.sum)) S | none => .stuck
  | _, _ => .stuck
theorem co_all : CallOp X EX (rAll X.K) gAll := by
  intro F σ env S H μ vs ws Q s rvs q
  unfold gAll at q
  split at q
  · obtain ⟨v, rfl, rv⟩ := rws1 rvs
    obtain ⟨a, us, rfl, na, ha, ta⟩ := rw_lst rv
    split at q
    · rename_i bs e
      have h := bools_dn ta e
      subst h
      exact ⟨a, bs, rfl, SqL.of ha, post_here s (.d (.bl _)) q⟩
    · exact q.elim
  · exact q.elim
theorem co_any : CallOp X EX (rAny X.K) gAny := by
  intro F σ env S H μ vs ws Q s rvs q
  unfold gAny at q
  split at q
  · obtain ⟨v, rfl, rv⟩ := rws1 rvs
    obtain ⟨a, us, rfl, na, ha, ta⟩ := rw_lst rv
    split at q
    · rename_i bs e
      have h := bools_dn ta e
      subst h
      exact ⟨a, bs, rfl, SqL.of ha, post_here s (.d (.bl _)) q⟩
    · exact q.elim
  · exact q.elim
theorem co_sumL : CallOp X EX (rSum X.K) gSumL := by
  intro F σ env S H μ vs ws Q s rvs q
  unfold gSumL at q
  split at q
  · obtain ⟨v, rfl, rv⟩ := rws1 rvs
    obtain ⟨a, us, rfl, na, ha, ta⟩ := rw_lst rv
    split at q
    · rename_i bs e
      have h := ints_dn ta e
      subst h
      exact ⟨a, bs, rfl, SqL.of ha, post_here s (.d (.int _)) q⟩
    · exact q.elim
  · exact q.elim
theorem me_all (hc : X.calm = true) (hg : Gl X "all") (hm : X.mg "all" = none) (h : MA X cf EX [e] ha) (he : starEach [e] X.env = (false, eval e X.env) :: starEach [] X.env := by rfl) (hpl : (backTo pos (starEach [] X.env)).any (·.1) = false := by rfl) :
    ME X cf EX (.Call (.Name "all" p) [e] [] pos) (fB gAll ha) := me_callB (cr_all hc) co_all hg hm (by decide +kernel) h (he := he) (hpl := hpl)
theorem me_any (hc : X.calm = true) (hg : Gl X "any") (hm : X.mg "any" = none) (h : MA X cf EX [e] ha) (he : starEach [e] X.env = (false, eval e X.env) :: starEach [] X.env := by rfl) (hpl : (backTo pos (starEach [] X.env)).any (·.1) = false := by rfl) :
    ME X cf EX (.Call (.Name "any" p) [e] [] pos) (fB gAny ha) := me_callB (cr_any hc) co_any hg hm (by decide +kernel) h (he := he) (hpl := hpl)
theorem me_sumL (hc : X.calm = true) (hg : Gl X "sum") (hm : X.mg "sum" = none) (h : MA X cf EX [e] ha) (he : starEach [e] X.env = (false, eval e X.env) :: starEach [] X.env := by rfl) (hpl : (backTo pos (starEach [] X.env)).any (·.1) = false := by rfl) :
    ME X cf EX (.Call (.Name "sum" p) [e] [] pos) (fB gSumL ha) := me_callB (cr_sum hc) co_sumL hg hm (by decide +kernel) h (he := he) (hpl := hpl)
/-- max, min of two numbers; abs; int of a truth or a number -/
def gMax2 : GN
  | [.d (.int i), .d (.int j)], S => .ok (.d (.int (if j > i then j else i))) S
  | _, _ => .stuck
def gMin2 : GN
  | [.d (.int i), .d (.int j)], S => .ok (.d (.int (if j < i then j else i))) S
  | _, _ => .stuck
def gAbs : GN
  | [.d (.int i)], S => .ok (.d (.int (if i < 0 then -i else i))) S
  | _, _ => .stuck
def gInt : GN
  | [.d (.int i)], S => .ok (.d (.int i)) S
  | [.d (.bool k)], S => .ok (.d (.int (if k then 1 else 0))) S
  | _, _ => .stuck
theorem co_max2 : CallOp X EX (fun xs H Q => ∃ i j, xs = [.int i, .int j] ∧ Q (.int (if j > i then j else i)) H) gMax2 := by
  intro F σ env S H μ vs ws Q s rvs q
  unfold gMax2 at q
  split at q
  · obtain ⟨v, v', rfl, r1, r2⟩ := rws2 rvs
    rw [rw_int r1, rw_int r2]
    exact ⟨_, _, rfl, post_here s (.d (.int _)) q⟩
  · exact q.elim
theorem co_min2 : CallOp X EX (fun xs H Q => ∃ i j, xs = [.int i, .int j] ∧ Q (.int (if j < i then j else i)) H) gMin2 := by
  intro F σ env S H μ vs ws Q s rvs q
  unfold gMin2 at q
  split at q
  · obtain ⟨v, v', rfl, r1, r2⟩ := rws2 rvs
    rw [rw_int r1, rw_int r2]
    exact ⟨_, _, rfl, post_here s (.d (.int _)) q⟩
  · exact q.elim
theorem co_abs : CallOp X EX (fun xs H Q => ∃ i, xs = [.int i] ∧ Q (.int (if i < 0 then -i else i)) H) gAbs := by
  intro F σ env S H μ vs ws Q s rvs q
  unfold gAbs at q
  split at q
  · obtain ⟨v, rfl, r1⟩ := rws1 rvs
    rw [rw_int r1]
    exact ⟨_, rfl, post_here s (.d (.int _)) q⟩
  · exact q.elim
theorem co_int : CallOp X EX (fun xs H Q => (∃ i, xs = [.int i] ∧ Q (.int i) H) ∨ ∃ k, xs = [.bl k] ∧ Q (.int (if k then 1 else 0)) H) gInt := by
  intro F σ env S H μ vs ws Q s rvs q
  unfold gInt at q
  split at q
  · obtain ⟨v, rfl, r1⟩ := rws1 rvs
    rw [rw_int r1]
    exact .inl ⟨_, rfl, post_here s (.d (.int _)) q⟩
  · obtain ⟨v, rfl, r1⟩ := rws1 rvs
    rw [rw_bl r1]
    exact .inr ⟨_, rfl, post_here s (.d (.int _)) q⟩
  · exact q.elim
theorem me_max2 (hc : X.calm = true) (hg : Gl X "max") (hm : X.mg "max" = none) (h : MA X cf EX (e :: es) ha) (he : starEach (e :: es) X.env = (false, eval e X.env) :: starEach es X.env := by rfl) (hpl : (backTo pos (starEach es X.env)).any (·.1) = false := by rfl) :
    ME X cf EX (.Call (.Name "max" p) (e :: es) [] pos) (fB gMax2 ha) := me_callB (call_max2 hc) co_max2 hg hm (by decide +kernel) h (he := he) (hpl := hpl)
theorem me_min2 (hc : X.calm = true) (hg : Gl X "min") (hm : X.mg "min" = none) (h : MA X cf EX (e :: es) ha) (he : starEach (e :: es) X.env = (false, eval e X.env) :: starEach es X.env := by rfl) (hpl : (backTo pos (starEach es X.env)).any (·.1) = false := by rfl) :
    ME X cf EX (.Call (.Name "min" p) (e :: es) [] pos) (fB gMin2 ha) := me_callB (call_min2 hc) co_min2 hg hm (by decide +kernel) h (he := he) (hpl := hpl)
theorem me_abs (hg : Gl X "abs") (hm : X.mg "abs" = none) (h : MA X cf EX [e] ha) (he : starEach [e] X.env = (false, eval e X.env) :: starEach [] X.env := by rfl) (hpl : (backTo pos (starEach [] X.env)).any (·.1) = false := by rfl) :
    ME X cf EX (.Call (.Name "abs" p) [e] [] pos) (fB gAbs ha) := me_callB call_abs co_abs hg hm (by decide +kernel) h (he := he) (hpl := hpl)
theorem me_intc (hg : Gl X "int") (hm : X.mg "int" = none) (h : MA X cf EX [e] ha) (he : starEach [e] X.env = (false, eval e X.env) :: starEach [] X.env := by rfl) (hpl : (backTo pos (starEach [] X.env)).any (·.1) = false := by rfl) :
    ME X cf EX (.Call (.Name "int" p) [e] [] pos) (fB gInt ha) := me_callTy call_int1 co_int hg hm (by decide +kernel) h (he := he) (hpl := hpl)
end
end Q

namespace Q
open PySem PySem.Spec PyProof.Rows L2

section
variable {K : PySem.W.Frag} {mg : Str → Option Value} {H : Hp} {N N' : Addr → Prop} {μ : List Addr}
theorem Keep.sub (h : ∀ a, N' a → N a) : Keep N H N' H := fun a _ n e => ⟨e, fun q => n (h a q)⟩
mutual
theorem RW.sub (h : ∀ a, N' a → N a) : ∀ {v : V} {w : W}, RW K mg H N μ v w → RW K mg H N' μ v w
  | _, _, .d t => .d (t.keep (Keep.sub h))
  | _, _, .ref t => .ref t
  | _, _, .own e t => .own e (t.keep (Keep.sub h))
  | _, _, .tw n e t => .tw (fun q => n (h _ q)) e (RWs.sub h t)
  | _, _, .fn t => .fn t
  | _, _, .scr t => .scr (t.keep (Keep.sub h))
theorem RWs.sub (h : ∀ a, N' a → N a) : ∀ {vs : List V} {ws : List W}, RWs K mg H N μ vs ws → RWs K mg H N' μ vs ws
  | _, _, .nil => .nil
  | _, _, .cons t r => .cons (RW.sub h t) (RWs.sub h r)
end
theorem RO.sub (h : ∀ a, N' a → N a) {a : Addr} {o : O} (r : RO K mg H N μ a o) : RO K mg H N' μ a o := by
  cases r with
  | lst e t => exact .lst e (t.keep (Keep.sub h))
  | ins g e m t p => exact .ins g e m (RWs.sub h t) p
theorem SimS.sub {S : Sto} (h : ∀ a, N' a → N a) (s : SimS K mg H N S μ) : SimS K mg H N' S μ := ⟨s.len, s.nd, fun n o e => let ⟨a, ha, r⟩ := s.obj n o e; ⟨a, ha, r.sub h⟩⟩
end

def NR (F : Addr → Prop) (μ : List Addr) : Addr → Prop := fun a => a ∈ μ ∨ F a
structure SimR (K : PySem.W.Frag) (mg : Str → Option Value) (F : Addr → Prop) (H : Hp) (S : Sto) (μ : List Addr) : Prop where
  st : SimS K mg H (NR F μ) S μ
  ftr : ∀ a, F a → ∃ u, H a = some u
  fdis : ∀ a, F a → a ∉ μ
structure ExR (H : Hp) (μ : List Addr) (H' : Hp) (μ' : List Addr) : Prop where
  keep : Keep (· ∈ μ) H (· ∈ μ') H'
  pre : μ <+: μ'
def PostR (K : PySem.W.Frag) (mg : Str → Option Value) (F : Addr → Prop) (H : Hp) (μ : List Addr) (r : R W) (Q : VK) (E : XK) : Prop :=
  match r with
  | .ok w S' => ∀ v H' μ', SimR K mg F H' S' μ' → ExR H μ H' μ' → RW K mg H' (NR F μ') μ' v w → Q v H'
  | .exc c S' => ∀ C H' μ', mg (Str.ofString c) = some (.ref C) → SimR K mg F H' S' μ' → ExR H μ H' μ' → E (.ref C) none H'
  | .stuck => False
def SpQ (K : PySem.W.Frag) (mg : Str → Option Value) (cf : CF) (x : String) (n : Nat) : Sp := fun vs H Q E => vs.length = n ∧ ∃ ws S μ F, SimR K mg F H S μ ∧ RWs K mg H (NR F μ) μ vs ws ∧ W.plains ws = true ∧ PostR K mg F H μ (cf x ws S) Q E
/-- a def of the text -/
structure FnQ (P : Program) (w : World) (K : PySem.W.Frag) (mg : Str → Option Value) (base : Heap) (cf : CF) (k : Nat) (x : String) (n : Nat) : Prop where
  ex : ∃ f fd ps, FnG P w K mg base (L2.CX P w) k f fd ps (SpQ K mg cf x n) ∧ mg (Str.ofString x) = some (.ref f) ∧ PySem.W.keepIn K (.ref f) = true ∧ Binds K fd ps [] ∧ ps.length = n
section
variable {X : Cx} {cf : CF} {EX : WX} {F : Addr → Prop} {σ : L2.St} {env : EnvQ} {S S' : Sto} {H H' : Hp} {μ μ' : List Addr} {K : PySem.W.Frag} {mg : Str → Option Value}
theorem ownAt_iff {σ : L2.St} {env : EnvQ} {i : Nat} {a : Addr} : OwnAt σ env i a ↔ σ[i]? = some (some (.ref a)) ∧ ∃ w, env[i]? = some (some w) ∧ w.isOwn = true := Iff.rfl
theorem own_or_plain : ∀ {v : V} {w : W} {N : Addr → Prop}, RW K mg H N μ v w → w.isOwn = true → ∃ a vs xs, v = .ref a ∧ w = .own xs ∧ H a = some (.lst vs) ∧ DnAll K H N vs xs
  | _, _, _, .own e t, _ => ⟨_, _, _, rfl, rfl, e, t⟩
  | _, _, _, .d _, h => by simp [W.isOwn] at h
  | _, _, _, .ref _, h => by simp [W.isOwn] at h
  | _, _, _, .tw _ _ _, h => by simp [W.isOwn] at h
  | _, _, _, .fn _, h => by simp [W.isOwn] at h
  | _, _, _, .scr _, h => by simp [W.isOwn] at h
/-- to a callee: its F is what this def may change, and what its callers may -/
theorem Sim.toR (s : Sim K mg F σ H env S μ) : SimR K mg (fun a => (∃ i, OwnAt σ env i a) ∨ F a) H S μ where
  st := s.st.sub fun a h => h.elim (fun h => .inl (.inl h)) fun h => h.elim (fun h => .inl (.inr h)) .inr
  ftr := fun a h => h.elim (fun h => s.tracked (.inl (.inr h))) fun h => s.ftr a h
  fdis := fun a h m => h.elim (fun ⟨i, h⟩ => s.apart i a h m) fun h => s.fdis a h (.inl m)
theorem nr_sub : ∀ a, NR (fun a => (∃ i, OwnAt σ env i a) ∨ F a) μ a → NN F μ σ env a := fun a h => h.elim (fun h => .inl (.inl h)) fun h => h.elim (fun h => .inl (.inr h)) .inr
theorem nr_sup : ∀ a, NN F μ σ env a → NR (fun a => (∃ i, OwnAt σ env i a) ∨ F a) μ a := fun a h => h.elim (fun h => h.elim .inl fun h => .inr (.inl h)) fun h => .inr (.inr h)
/-- back from a callee -/
theorem Sim.back (s : Sim K mg F σ H env S μ) (r : SimR K mg (fun a => (∃ i, OwnAt σ env i a) ∨ F a) H' S' μ') (x : ExR H μ H' μ') : Sim K mg F σ H' env S' μ' ∧ Ext σ env H μ H' μ' := by
  have ow : ∀ i a, OwnAt σ env i a → a ∉ μ' := fun i a h => r.fdis a (.inl ⟨i, h⟩)
  have kp : Keep (MM μ σ env) H (MM μ' σ env) H' := fun a o n e => by
    obtain ⟨e', n'⟩ := x.keep a o (fun m => n (.inl m)) e
    exact ⟨e', fun h => h.elim n' fun h => n (.inr h)⟩
  have ex : Ext σ env H μ H' μ' := ⟨kp, x.pre⟩
  refine ⟨⟨s.len, fun i w e => ?_, s.fin, s.inj, ow, r.st.sub nr_sup, fun a f => r.ftr a (.inr f), fun a f h => h.elim (r.fdis a (.inr f)) fun h => s.fdis a f (.inr h)⟩, ex⟩
  obtain ⟨v, hv, rw'⟩ := s.slot i w e
  refine ⟨v, hv, ?_⟩
  have fi := s.fin i w e
  by_cases po : w.isOwn = true
  · obtain ⟨a, vs, xs, rfl, rfl, ha, ta⟩ := own_or_plain rw' po
    have o1 : OwnAt σ env i a := ⟨hv, _, e, rfl⟩
    exact .own (x.keep a _ (s.apart i a o1) ha).1 (ta.keep (ex.nn F))
  · have pl : w.plain = true := by
      unfold W.fine at fi
      simpa [po] using fi
    exact RW.keep (ex.nn F) x.pre rw' pl
end
section
variable {X : Cx} {cf : CF} {EX : WX} {e a b c : Expr} {es : List Expr} {fa fb fc : SE} {ha hb : SA} {pos p : Pos} {x : String} {k n : Nat}
theorem post_R {F : Addr → Prop} {σ : L2.St} {env : EnvQ} {S : Sto} {H : Hp} {μ : List Addr} {r : R W} {Q : VK} (s : Sim X.K X.mg F σ H env S μ)
    (q : Post X.K X.mg EX F σ env H μ r fun w _ H' μ' => ∀ v, RW X.K X.mg H' (NN F μ' σ env) μ' v w → Q v H') : PostR X.K X.mg (fun a => (∃ i, OwnAt σ env i a) ∨ F a) H μ r Q (WE EX σ) := by
  cases r with
  | ok w S' =>
    intro v H' μ' r x rv
    obtain ⟨s', x'⟩ := s.back r x
    exact q H' μ' s' x' v (RW.sub nr_sup rv)
  | exc c S' =>
    intro C H' μ' g r x
    obtain ⟨s', x'⟩ := s.back r x
    exact q C H' μ' g s' x'
  | stuck => exact q
def arity (n : Nat) (ws : List W) (r : R W) : R W := if ws.length = n ∧ W.plains ws = true then r else .stuck
def fCallN (x : String) (n : Nat) (a : SA) : SE := fun cf env S => (a cf env S).bind fun ws S1 => arity n ws (cf x ws S1)
theorem me_call (G : FnQ X.prog X.w X.K X.mg X.base cf k x n) (hA : X.A.guards = some []) (hr : Room k X.A) (tk : Takes X EX) (hg : Gl X (Str.ofString x)) (h : MA X cf EX (e :: es) ha) (hdb : (Str.ofString x == ("__debug__" : Str)) = false := by decide)
    (he : starEach (e :: es) X.env = (false, eval e X.env) :: starEach es X.env := by rfl) (hpl : (backTo pos (starEach es X.env)).any (·.1) = false := by rfl) : ME X cf EX (.Call (.Name (Str.ofString x) p) (e :: es) [] pos) (fCallN x n ha) := by
  obtain ⟨f, fd, ps, G1, G2, G3, G4, G5⟩ := G.ex
  refine PE.weak (pe_callG G1 hA hr hg G2 G3 G4 tk h hdb he hpl) fun σ H Q ⟨env, S, μ, F, s, q⟩ => ⟨env, S, μ, F, s, (Post.bind q).mono fun ws S1 H1 μ1 s1 x1 q1 vs rvs => ?_⟩
  unfold arity at q1
  split at q1
  · rename_i c
    exact ⟨by rw [rvs.length]; exact c.1, ws, S1, μ1, _, s1.toR, RWs.sub nr_sub rvs, c.2, post_R s1 q1⟩
  · exact q1.elim
def fCall0 (x : String) : SE := fun cf env S => cf x [] S
theorem me_call0 (G : FnQ X.prog X.w X.K X.mg X.base cf k x 0) (hA : X.A.guards = some []) (hr : Room k X.A) (tk : Takes X EX) (hg : Gl X (Str.ofString x)) (hdb : (Str.ofString x == ("__debug__" : Str)) = false := by decide) :
    ME X cf EX (.Call (.Name (Str.ofString x) p) [] [] pos) (fCall0 x) := by
  obtain ⟨f, fd, ps, G1, G2, G3, G4, G5⟩ := G.ex
  exact PE.weak (pe_call0G G1 hA hr hg G2 G3 G4 tk hdb) fun σ H Q ⟨env, S, μ, F, s, q⟩ => ⟨rfl, [], S, μ, _, s.toR, .nil, rfl, post_R s q⟩

theorem IxR.or {r r' : R2} (h : IxR X r) (h' : IxR X r') : IxR X (fun x y H Q => r x y H Q ∨ r' x y H Q) := by
  intro value slice pins s σ H x y v u Q I rx ry q hs
  rcases q with q | q
  · exact h value slice pins s σ H x y v u Q I rx ry q hs
  · exact h' value slice pins s σ H x y v u Q I rx ry q hs
def gAt : G2
  | .d (.tuple xs), .d (.int i), S => match atI xs i with | some x => .ok (.d x) S | none => .stuck
  | .d (.list xs), .d (.int i), S => match atI xs i with | some x => .ok (.d x) S | none => .stuck
  | .d (.str x), .d (.int i), S => if x.length ≤ LIM then (match atI x.cps.toList i with | some c => .ok (.d (.str ⟨#[c]⟩)) S | none => .stuck) else .stuck
  | .tw xs, .d (.int i), S => if W.plains xs then (match atI xs i with | some x => .ok x S | none => .stuck) else .stuck
  | .ref n, .d (.int i), S => match S[n]? with
    | some (.lst xs) => (match atI xs i with | some x => .ok (.d x) S | none => .stuck)
    | _ => .stuck
  | .scr xs, .d (.int i), S => match atI xs i with | some x => .ok (.d (.int x)) S | none => .stuck
  | .own xs, .d (.int i), S => match atI xs i with | some x => .ok (.d x) S | none => .stuck
  | _, _, _ => .stuck
theorem qat_get {α β : Type} {xs : List α} {ys : List β} {i : Int} {y : β} (hl : xs.length = ys.length) (h : atI ys i = some y) : ∃ j : Nat, ys[j]? = some y ∧ ∀ x, xs[j]? = some x → atI xs i = some x := by
  unfold atI at h ⊢
  rw [hl]
  cases e : ixN ys.length i with
  | none => rw [e] at h; cases h
  | some j =>
    rw [e] at h
    exact ⟨j, h, fun x hx => hx⟩
theorem atI_dn {K : PySem.W.Frag} {H : Hp} {N : Addr → Prop} {vs : List V} {ds : List D} {i : Int} {d : D} (t : DnAll K H N vs ds) (h : atI ds i = some d) : ∃ v, atI vs i = some v ∧ Dn K H N v d := by
  obtain ⟨j, hj, f⟩ := qat_get t.length h
  obtain ⟨v, hv, r⟩ := t.get hj
  exact ⟨v, f v hv, r⟩
theorem RWs.get {K : PySem.W.Frag} {mg : Str → Option Value} {H : Hp} {N : Addr → Prop} {μ : List Addr} : ∀ {vs : List V} {ws : List W} {i : Nat} {w : W}, RWs K mg H N μ vs ws → ws[i]? = some w → ∃ v, vs[i]? = some v ∧ RW K mg H N μ v w
  | _, _, _, _, .nil, e => by simp at e
  | _, _, 0, _, .cons h _, e => by simp at e; subst e; exact ⟨_, rfl, h⟩
  | _, _, i + 1, w, .cons _ t, e => by
    obtain ⟨v, h1, h2⟩ := RWs.get (i := i) (w := w) t (by simpa using e)
    exact ⟨v, by simpa using h1, h2⟩
theorem o_at : ∀ (F : Addr → Prop) (σ : L2.St) (env : EnvQ) (S : Sto) (H : Hp) (μ : List Addr) (x y : V) (w u : W) (Q : VK), Sim X.K X.mg F σ H env S μ → RW X.K X.mg H (NN F μ σ env) μ x w → RW X.K X.mg H (NN F μ σ env) μ y u →
    Post X.K X.mg EX F σ env H μ (gAt w u S) (fun w _ H' μ' => ∀ v, RW X.K X.mg H' (NN F μ' σ env) μ' v w → Q v H') → rIxL X.K x y H Q ∨ rIxT X.K x y H Q ∨ rIxS x y H Q := by
  intro F σ env S H μ x y w u Q s rx ry q
  unfold gAt at q
  split at q
  · obtain ⟨a, vs, rfl, ha, ta⟩ := rw_tup rx
    rw [rw_int ry]
    split at q
    · rename_i e
      obtain ⟨v, hv, r⟩ := atI_dn ta e
      exact .inr (.inl ⟨a, vs, _, v, rfl, rfl, ha.sq, hv, post_here s (.d r) q⟩)
    · exact q.elim
  · obtain ⟨a, vs, rfl, na, ha, ta⟩ := rw_lst rx
    rw [rw_int ry]
    split at q
    · rename_i e
      obtain ⟨v, hv, r⟩ := atI_dn ta e
      exact .inl ⟨a, vs, _, v, rfl, rfl, SqL.of ha, hv, post_here s (.d r) q⟩
    · exact q.elim
  · rw [rw_str rx, rw_int ry]
    split at q
    · split at q
      · rename_i e
        exact .inr (.inr ⟨_, _, _, rfl, rfl, by rw [← lim_line]; assumption, e, post_here s (.d (.str _)) q⟩)
      · exact q.elim
    · exact q.elim
  · rw [rw_int ry]
    split at q
    · split at q
      · rename_i e
        cases rx with
        | tw n e1 t =>
          obtain ⟨j, hj, f⟩ := qat_get t.length e
          obtain ⟨v, hv, r⟩ := t.get hj
          exact .inr (.inl ⟨_, _, _, v, rfl, rfl, SqT.of e1, f v hv, post_here s r q⟩)
      · exact q.elim
    · exact q.elim
  · rw [rw_int ry]
    split at q
    · rename_i hS
      split at q
      · rename_i e
        cases rx with
        | ref hn =>
          obtain ⟨a, ha, ro⟩ := s.st.obj _ _ hS
          rw [hn] at ha
          cases ha
          cases ro with
          | lst h t =>
            obtain ⟨v, hv, r⟩ := atI_dn t e
            exact .inl ⟨_, _, _, v, rfl, rfl, SqL.of h, hv, post_here s (.d r) q⟩
      · exact q.elim
    · exact q.elim
  · rw [rw_int ry]
    split at q
    · rename_i xs i S' z e
      cases rx with
      | scr h =>
        obtain ⟨j, hj, f⟩ := qat_get (xs := xs.map V.int) (by simp) e
        exact .inl ⟨_, _, _, _, rfl, rfl, h.sq, f (.int z) (by simp [hj]), post_here s (.d (.int z)) q⟩
    · exact q.elim
  · rw [rw_int ry]
    split at q
    · rename_i e
      cases rx with
      | own h t =>
        obtain ⟨v, hv, r⟩ := atI_dn t e
        exact .inl ⟨_, _, _, v, rfl, rfl, SqL.of h, hv, post_here s (.d r) q⟩
    · exact q.elim
  · exact q.elim
/-- o[i], i by itself without one's own -/
def fAt (a b : SE) : SE := fun cf env S => (a cf env S).bind fun x S1 => if x.plain then (b cf env S1).bind fun y S2 => gAt x y S2 else .stuck
theorem me_at (h1 : ME X cf EX a fa) (h2 : ME X cf EX b fb) (hs : PlainIx b := by exact fun _ _ => rfl) : ME X cf EX (.Subscript a b pos) (fAt fa fb) := by
  refine PE.weak (pe_ix (IxR.or ix_list (IxR.or ix_tup ix_str)) h1 h2 hs) fun σ H Q ⟨env, S, μ, F, s, q⟩ => ⟨env, S, μ, F, s, (Post.bind q).mono fun w S1 H1 μ1 s1 x1 q1 v rv => ?_⟩
  split at q1
  · rename_i pw
    exact ⟨env, S1, μ1, F, s1, (Post.bind q1).mono fun u S2 H2 μ2 s2 x2 q2 v2 rv2 => o_at F σ env S2 H2 μ2 v v2 w u Q s2 (RW.keep (x2.nn F) x2.pre rv pw) rv2 q2⟩
  · exact q1.elim
/-- one's own list, told -/
def fOwn (i : Nat) : SE := fun _ env S => match env[i]? with
  | some (some (.own xs)) => .ok (.own xs) S
  | _ => .stuck
theorem me_own {i : Nat} {x : Str} (h : PE X (.Name x pos) (tVar i)) : ME X cf EX (.Name x pos) (fOwn i) :=
  PE.weak h fun σ H Q ⟨env, S, μ, F, s, q⟩ => by
    unfold fOwn at q
    split at q
    · rename_i e
      obtain ⟨v, hv, r⟩ := s.slot i _ e
      exact ⟨v, hv, q H μ s (Ext.refl _ _ _ _) v r⟩
    · exact q.elim
/-- found[i] of one's own list, i a constant or a variable (so that nothing comes between) -/
def fAtOwn (i : Nat) (b : SE) : SE := fun cf env S => match env[i]? with
  | some (some (.own xs)) => (b cf env S).bind fun y S2 => gAt (.own xs) y S2
  | _ => .stuck
theorem me_atOwn {i : Nat} {x : Str} {pp : Pos} (h1 : PE X (.Name x pp) (tVar i)) (h2 : ME X cf EX b fb) (hs : PlainIx b := by exact fun _ _ => rfl) : ME X cf EX (.Subscript (.Name x pp) b pos) (fAtOwn i fb) := by
  refine PE.weak (pe_ix (IxR.or ix_list (IxR.or ix_tup ix_str)) h1 h2 hs) fun σ H Q ⟨env, S, μ, F, s, q⟩ => ?_
  unfold fAtOwn at q
  split at q
  · rename_i xs e
    obtain ⟨v, hv, r⟩ := s.slot i _ e
    refine ⟨v, hv, env, S, μ, F, s, (Post.bind q).mono fun u S2 H2 μ2 s2 x2 q2 v2 rv2 => ?_⟩
    obtain ⟨v', hv', r'⟩ := s2.slot i _ e
    rw [hv] at hv'
    cases hv'
    exact o_at F σ env S2 H2 μ2 v v2 _ u Q s2 r' rv2 q2
  · exact q.elim
/-- one argument, one's own too -/
def aOne (a : SE) : SA := fun cf env S => (a cf env S).bind fun x S1 => .ok [x] S1
theorem ma_one (h1 : ME X cf EX e fa) (hs : starEach (e :: []) X.env = (false, eval e X.env) :: starEach [] X.env := by rfl) : MA X cf EX [e] (aOne fa) :=
  PA.weak (pa_cons h1 pa_nil hs) fun σ H Q ⟨env, S, μ, F, s, q⟩ => ⟨env, S, μ, F, s, (Post.bind q).mono fun w S1 H1 μ1 s1 x1 q1 v rv => q1 H1 μ1 s1 (Ext.refl _ _ _ _) _ (.cons rv .nil)⟩
/-- slices -/
def cutD {α : Type} (xs : List α) (lo hi : Option Int) : List α := (xs.drop (HT.sIx xs.length 0 lo)).take (HT.sIx xs.length xs.length hi - HT.sIx xs.length 0 lo)
theorem cutD_V (xs : List V) (lo hi : Option Int) : cutD xs lo hi = cutV xs lo hi := rfl
theorem cut_dn {K : PySem.W.Frag} {H : Hp} {N : Addr → Prop} {vs : List V} {ds : List D} {lo hi : Option Int} (t : DnAll K H N vs ds) : DnAll K H N (cutV vs lo hi) (cutD ds lo hi) := by
  unfold cutV cutD
  rw [t.length]
  exact (t.drop _).take _
def gSlice (w : W) (lo hi : Option Int) (S : Sto) : R W := match w with
  | .d (.tuple xs) => .ok (.d (.tuple (cutD xs lo hi))) S
  | .d (.list xs) => .ok (.d (.list (cutD xs lo hi))) S
  | .d (.str x) => if x.length ≤ LIM then .ok (.d (.str (cutS x lo hi))) S else .stuck
  | .scr xs => .ok (.d (.list ((cutD xs lo hi).map PyData.int))) S
  | _ => .stuck
abbrev SO := CF → EnvQ → Sto → R (Option Int)
def oNone : SO := fun _ _ S => .ok none S
def oSome (a : SE) : SO := fun cf env S => (a cf env S).bind fun x S1 => match x with
  | .d (.int i) => .ok (some i) S1
  | _ => .stuck
def fSl (a : SE) (lo hi : SO) : SE := fun cf env S => (a cf env S).bind fun x S1 => if x.plain then (lo cf env S1).bind fun l S2 => (hi cf env S2).bind fun u S3 => gSlice x l u S3 else .stuck
def tO (K : PySem.W.Frag) (mg : Str → Option Value) (cf : CF) (EX : WX) (f : SO) : TO := fun σ H Q => ∃ env S μ F, Sim K mg F σ H env S μ ∧ Post K mg EX F σ env H μ (f cf env S) fun b _ H' _ => Q b H'
def MO (X : Cx) (cf : CF) (EX : WX) (e : Option Expr) (f : SO) : Prop := PO X e (tO X.K X.mg cf EX f)
theorem PO.weak {X : Cx} {e : Option Expr} {t t' : TO} (h : PO X e t) (w : ∀ σ H Q, t' σ H Q → t σ H Q) : PO X e t' := ⟨fun pins s σ H Q I q => h.run pins s σ H Q I (w σ H Q q)⟩
theorem mo_none : MO X cf EX none oNone := PO.weak po_none fun σ H Q ⟨env, S, μ, F, s, q⟩ => q H μ s (Ext.refl _ _ _ _)
theorem mo_some (h : ME X cf EX e fa) : MO X cf EX (some e) (oSome fa) := PO.weak (po_some h) fun σ H Q ⟨env, S, μ, F, s, q⟩ => ⟨env, S, μ, F, s, (Post.bind q).mono fun w S1 H1 μ1 s1 x1 q1 v rv => by
  split at q1
  · exact ⟨_, rw_int rv, q1 H1 μ1 s1 (Ext.refl _ _ _ _)⟩
  · exact q1.elim⟩
theorem cut_map {xs : List Int} {lo hi : Option Int} : cutV (xs.map V.int) lo hi = (cutD xs lo hi).map V.int := by
  unfold cutV cutD
  rw [List.length_map, List.map_take, List.map_drop]
theorem whole_cut {α : Type} {xs : List α} {lo hi : Option Int} (h : HT.sIx xs.length 0 lo = 0 ∧ HT.sIx xs.length xs.length hi = xs.length) : cutD xs lo hi = xs := by
  unfold cutD
  rw [h.1, h.2]
  simp
theorem me_slice {l u : Option Expr} {fl fu : SO} {p2 : Pos} (h : ME X cf EX a fa) (hl : MO X cf EX l fl) (hu : MO X cf EX u fu) : ME X cf EX (.Subscript a (.Slice l u none p2) pos) (fSl fa fl fu) := by
  refine PE.weak (pe_slice (SlR.or sl_list (SlR.or sl_tupA sl_str)) h hl hu) fun σ H Q ⟨env, S, μ, F, s, q⟩ => ⟨env, S, μ, F, s, (Post.bind q).mono fun w S1 H1 μ1 s1 x1 q1 v rv => ?_⟩
  split at q1
  · rename_i pw
    refine ⟨env, S1, μ1, F, s1, (Post.bind q1).mono fun lo S2 H2 μ2 s2 x2 q2 => ⟨env, S2, μ2, F, s2, (Post.bind q2).mono fun hi S3 H3 μ3 s3 x3 q3 => ?_⟩⟩
    have rv' : RW X.K X.mg H3 (NN F μ3 σ env) μ3 v w := RW.keep ((x2.nn F).trans (x3.nn F)) (List.IsPrefix.trans x2.pre x3.pre) rv pw
    unfold gSlice at q3
    split at q3
    · obtain ⟨t, vs, rfl, ht, tt⟩ := rw_tup rv'
      refine .inr (.inl ⟨t, vs, rfl, ht.sq, fun z => ?_, fun _ p n => post_tup (α := Unit) s3 (cut_dn tt) q3 n⟩)
      rw [tt.length] at z
      rw [whole_cut z] at q3
      exact post_here s3 rv' q3
    · obtain ⟨t, vs, rfl, nt, ht, tt⟩ := rw_lst rv'
      exact .inl ⟨t, vs, rfl, SqL.of ht, fun p n => post_lst s3 (cut_dn tt) q3 n⟩
    · rw [rw_str rv']
      split at q3
      · rename_i h
        exact .inr (.inr ⟨_, rfl, by rw [← lim_line]; exact h, post_here s3 (.d (.str _)) q3⟩)
      · exact q3.elim
    · cases rv' with
      | scr h =>
        refine .inl ⟨_, _, rfl, h.sq, fun p n => ?_⟩
        rw [cut_map]
        exact post_lst s3 (ints_all _) q3 n
    · exact q3.elim
  · exact q1.elim

theorem dn_ty {K : PySem.W.Frag} {H : Hp} {N : Addr → Prop} {v : V} {d : D} (h : Dn K H N v d) : TyX K H v (.type (tyName d)) := by
  cases h with
  | non => exact .base .non
  | bl b => exact .base (.bl b)
  | int i => exact .base (.int i)
  | str x => exact .base (.str x)
  | lst h t => exact .base (.lst h.2)
  | tup h t =>
    rcases h with ⟨_, h | ⟨o, h⟩⟩ | h
    · exact .base (.tup h)
    · exact .fTuple h
    · rcases h with (h | ⟨_, h⟩) | ⟨o, its, n, ho, hc, _⟩
      · cases h
      · cases h
      · exact .kTuple ho hc
  | dic n h => exact .base (.dK h)
def tyArg (T : String) : Bool := T == "int" || T == "bool" || T == "str" || T == "tuple" || T == "list" || T == "dict"
theorem kit_all : ∀ a ∈ ["NoneType", "bool", "int", "str", "list", "tuple", "dict"], ∀ T ∈ ["int", "bool", "str", "tuple", "list", "dict"], kitB a T = some (a == T || (a == "bool" && T == "int")) := by decide +kernel
theorem kit_isTy {T : String} (hT : T ∈ ["int", "bool", "str", "tuple", "list", "dict"]) (d : D) : kitB (tyName d) T = some (isTy T d) := kit_all _ (by cases d <;> simp [tyName]) T hT
theorem me_isi {T : String} {q : Pos} (hT : T ∈ ["int", "bool", "str", "tuple", "list", "dict"] := by decide) (hg : Gl X "isinstance") (hm : X.mg "isinstance" = none) (h1 : ME X cf EX e fa) (h2 : PE X (.Name (Str.ofString T) q) (tC (.ty T)))
    (he : starEach [e, .Name (Str.ofString T) q] X.env = (false, eval e X.env) :: starEach [.Name (Str.ofString T) q] X.env := by rfl) (he2 : starEach [.Name (Str.ofString T) q] X.env = (false, eval (.Name (Str.ofString T) q) X.env) :: starEach [] X.env := by rfl)
    (hpl : (backTo pos (starEach [.Name (Str.ofString T) q] X.env)).any (·.1) = false := by rfl) : ME X cf EX (.Call (.Name "isinstance" p) [e, .Name (Str.ofString T) q] [] pos) (fIsI T fa) :=
  PE.weak (pe_callB call_isi hg hm (by decide +kernel) (pa_cons h1 (pa_cons h2 pa_nil he2) he) (he := he) (hpl := hpl)) fun σ H Q ⟨env, S, μ, F, s, q⟩ => ⟨env, S, μ, F, s, (Post.bind q).mono fun w S1 H1 μ1 s1 x1 q1 v rv => by
    split at q1
    · cases rv with
      | d h => exact ⟨v, .ty T, _, _, _, rfl, .ty T, dn_ty h, kit_ty (kit_isTy hT _), post_here s1 (.d (.bl _)) q1⟩
    · exact q1.elim⟩
end
end Q

namespace Q
open PySem PySem.Spec PyProof.Rows L2

inductive RS where
  | next (env : EnvQ) (S : Sto)
  | ret (w : W) (S : Sto)
  | brk (env : EnvQ) (S : Sto)
  | cont (env : EnvQ) (S : Sto)
  | exc (c : String) (env : EnvQ) (S : Sto)
  | stuck
abbrev SS := CF → EnvQ → Sto → RS
/-- from an expression's result to a statement's -/
def R.then {α : Type} (r : R α) (env : EnvQ) (f : α → Sto → RS) : RS := match r with
  | .ok a S => f a S
  | .exc c S => .exc c env S
  | .stuck => .stuck
@[simp] theorem R.then_ok {α : Type} (a : α) (S : Sto) (env : EnvQ) (f : α → Sto → RS) : (R.ok a S).then env f = f a S := rfl
@[simp] theorem R.then_exc {α : Type} (c : String) (S : Sto) (env : EnvQ) (f : α → Sto → RS) : (R.exc c S : R α).then env f = .exc c env S := rfl
@[simp] theorem R.then_stuck {α : Type} (env : EnvQ) (f : α → Sto → RS) : (R.stuck : R α).then env f = .stuck := rfl
def RS.seq (r : RS) (f : EnvQ → Sto → RS) : RS := match r with
  | .next env S => f env S
  | r => r
@[simp] theorem RS.seq_next (env : EnvQ) (S : Sto) (f : EnvQ → Sto → RS) : (RS.next env S).seq f = f env S := rfl
@[simp] theorem RS.seq_ret (w : W) (S : Sto) (f : EnvQ → Sto → RS) : (RS.ret w S).seq f = .ret w S := rfl
@[simp] theorem RS.seq_brk (env : EnvQ) (S : Sto) (f : EnvQ → Sto → RS) : (RS.brk env S).seq f = .brk env S := rfl
@[simp] theorem RS.seq_cont (env : EnvQ) (S : Sto) (f : EnvQ → Sto → RS) : (RS.cont env S).seq f = .cont env S := rfl
@[simp] theorem RS.seq_exc (c : String) (env : EnvQ) (S : Sto) (f : EnvQ → Sto → RS) : (RS.exc c env S).seq f = .exc c env S := rfl
@[simp] theorem RS.seq_stuck (f : EnvQ → Sto → RS) : RS.stuck.seq f = .stuck := rfl

structure ExS (σ : L2.St) (env : EnvQ) (H : Hp) (μ : List Addr) (σ' : L2.St) (env' : EnvQ) (H' : Hp) (μ' : List Addr) : Prop where
  keep : Keep (MM μ σ env) H (MM μ' σ' env') H'
  pre : μ <+: μ'
theorem ExS.refl (σ : L2.St) (env : EnvQ) (H : Hp) (μ : List Addr) : ExS σ env H μ σ env H μ := ⟨Keep.refl _ _, List.prefix_refl _⟩
theorem ExS.trans {σ σ1 σ2 : L2.St} {env env1 env2 : EnvQ} {H H1 H2 : Hp} {μ μ1 μ2 : List Addr} (x : ExS σ env H μ σ1 env1 H1 μ1) (y : ExS σ1 env1 H1 μ1 σ2 env2 H2 μ2) : ExS σ env H μ σ2 env2 H2 μ2 :=
  ⟨x.keep.trans y.keep, List.IsPrefix.trans x.pre y.pre⟩
theorem ExS.nn {σ σ1 : L2.St} {env env1 : EnvQ} {H H1 : Hp} {μ μ1 : List Addr} (x : ExS σ env H μ σ1 env1 H1 μ1) (F : Addr → Prop) : Keep (NN F μ σ env) H (NN F μ1 σ1 env1) H1 := fun a o n e =>
  let z := x.keep a o (fun q => n (.inl q)) e
  ⟨z.1, fun q => q.elim z.2 fun q => n (.inr q)⟩
theorem Ext.s {σ : L2.St} {env : EnvQ} {H H' : Hp} {μ μ' : List Addr} (x : Ext σ env H μ H' μ') : ExS σ env H μ σ env H' μ' := ⟨x.keep, x.pre⟩
section
variable (K : PySem.W.Frag) (mg : Str → Option Value) (EX : WX)
def PostS (F : Addr → Prop) (σ : L2.St) (env : EnvQ) (H : Hp) (μ : List Addr) (r : RS) (D : Ends) : Prop :=
  match r with
  | .next env' S' => ∀ σ' H' μ', Sim K mg F σ' H' env' S' μ' → ExS σ env H μ σ' env' H' μ' → D.nx σ' H'
  | .brk env' S' => ∀ σ' H' μ', Sim K mg F σ' H' env' S' μ' → ExS σ env H μ σ' env' H' μ' → D.bk σ' H'
  | .cont env' S' => ∀ σ' H' μ', Sim K mg F σ' H' env' S' μ' → ExS σ env H μ σ' env' H' μ' → D.ct σ' H'
  | .ret w S' => ∀ v H' μ', SimR K mg F H' S' μ' → Keep (MM μ σ env) H (· ∈ μ') H' → μ <+: μ' → RW K mg H' (NR F μ') μ' v w → D.rt v H'
  | .exc c env' S' => ∀ C σ' H' μ', mg (Str.ofString c) = some (.ref C) → Sim K mg F σ' H' env' S' μ' → ExS σ env H μ σ' env' H' μ' → EX (.ref C) none σ' H'
  | .stuck => False
end
section
variable {K : PySem.W.Frag} {mg : Str → Option Value} {EX : WX} {F : Addr → Prop} {σ σ' : L2.St} {env env' : EnvQ} {H H' : Hp} {S : Sto} {μ μ' : List Addr} {D D' : Ends}
theorem PostS.ext {r : RS} (h : PostS K mg EX F σ env H μ r D) (x : ExS σ env H μ σ' env' H' μ') : PostS K mg EX F σ' env' H' μ' r D := by
  cases r with
  | next e S' => exact fun σ2 H2 μ2 s2 x2 => h σ2 H2 μ2 s2 (x.trans x2)
  | brk e S' => exact fun σ2 H2 μ2 s2 x2 => h σ2 H2 μ2 s2 (x.trans x2)
  | cont e S' => exact fun σ2 H2 μ2 s2 x2 => h σ2 H2 μ2 s2 (x.trans x2)
  | ret w S' => exact fun v H2 μ2 s2 k2 p2 => h v H2 μ2 s2 (x.keep.trans k2) (List.IsPrefix.trans x.pre p2)
  | exc c e S' => exact fun C σ2 H2 μ2 g s2 x2 => h C σ2 H2 μ2 g s2 (x.trans x2)
  | stuck => exact h
theorem PostS.seq {r : RS} {f : EnvQ → Sto → RS} (h : PostS K mg EX F σ env H μ (r.seq f) D) : PostS K mg EX F σ env H μ r { D with nx := fun σ' H' => ∃ env' S' μ', Sim K mg F σ' H' env' S' μ' ∧ PostS K mg EX F σ' env' H' μ' (f env' S') D } := by
  cases r with
  | next e S' => exact fun σ2 H2 μ2 s2 x2 => ⟨e, S', μ2, s2, PostS.ext h x2⟩
  | brk e S' => exact h
  | cont e S' => exact h
  | ret w S' => exact h
  | exc c e S' => exact h
  | stuck => exact h
/-- an expression, then a statement's rest -/
theorem PostS.expr {α : Type} {r : R α} {f : α → Sto → RS} (h : PostS K mg EX F σ env H μ (r.then env f) D) : Post K mg EX F σ env H μ r fun a S' H' μ' => PostS K mg EX F σ env H' μ' (f a S') D := by
  cases r with
  | ok a S' => exact fun H2 μ2 s2 x2 => PostS.ext h x2.s
  | exc c S' => exact fun C H2 μ2 g s2 x2 => h C σ H2 μ2 g s2 x2.s
  | stuck => exact h
end
def tS (K : PySem.W.Frag) (mg : Str → Option Value) (cf : CF) (EX : WX) (f : SS) : TS := fun D σ H => ∃ env S μ F, Sim K mg F σ H env S μ ∧ PostS K mg EX F σ env H μ (f cf env S) D
def MS (X : Cx) (cf : CF) (EX : WX) (st : Stmt) (f : SS) : Prop := PS X st (tS X.K X.mg cf EX f)
def MSs (X : Cx) (cf : CF) (EX : WX) (sts : List Stmt) (f : SS) : Prop := PSs X sts (tS X.K X.mg cf EX f)

def sNext : SS := fun _ env S => .next env S
def sSeq (a b : SS) : SS := fun cf env S => (a cf env S).seq fun env' S' => b cf env' S'
def W.setOk (w : W) : Bool := w.plain
def sSet (i : Nat) (f : SE) : SS := fun cf env S => (f cf env S).then env fun w S' => if w.plain then .next (env.set i (some w)) S' else .stuck
/-- a new list of one's own -/
def sNew (i : Nat) (a : SA) : SS := fun cf env S => (a cf env S).then env fun ws S' => if ws.length ≤ LIM then (match datas ws with
  | some ds => .next (env.set i (some (.own ds))) S'
  | none => .stuck) else .stuck
def sApp (i : Nat) (f : SE) : SS := fun cf env S => match env[i]? with
  | some (some (.own xs)) => (f cf env S).then env fun w S' => match w with
    | .d x => if xs.length < LIM then .next (env.set i (some (.own (xs ++ [x])))) S' else .stuck
    | _ => .stuck
  | _ => .stuck
/-- what is one's own stands from here on -/
def sFreeze (i : Nat) : SS := fun _ env S => match env[i]? with
  | some (some (.own xs)) => .next (env.set i (some (.d (.list xs)))) S
  | _ => .stuck
def W.told : W → W
  | .own xs => .d (.list xs)
  | w => w
def sRet (f : SE) : SS := fun cf env S => (f cf env S).then env fun w S' => if w.fine then .ret w.told S' else .stuck
def sRetN : SS := fun _ _ S => .ret (.d .none) S
def sExpr (f : SE) : SS := fun cf env S => (f cf env S).then env fun _ S' => .next env S'
def sIf (c : ST) (a b : SS) : SS := fun cf env S => (c cf env S).then env fun k S' => if k = true then a cf env S' else b cf env S'
def sBreak : SS := fun _ env S => .brk env S
def sCont : SS := fun _ env S => .cont env S
def sNever : SS := fun _ _ _ => .stuck
/-- where an item goes -/
inductive Tg where
  | name (i : Nat)
  | names (is : List Nat)
def setAll : List Nat → List D → EnvQ → Option EnvQ
  | [], [], env => some env
  | i :: is, d :: ds, env => setAll is ds (env.set i (some (.d d)))
  | _, _, _ => none
def Tg.set : Tg → D → EnvQ → Option EnvQ
  | .name i, d, env => some (env.set i (some (.d d)))
  | .names is, .tuple ds, env => setAll is ds env
  | _, _, _ => none
/-- a, b = e -/
def sUnp (is : List Nat) (f : SE) : SS := fun cf env S => (f cf env S).then env fun w S' => match w with
  | .d (.tuple ds) => (match setAll is ds env with | some env' => .next env' S' | none => .stuck)
  | _ => .stuck
abbrev SI := CF → EnvQ → Sto → R (List D)
def forL (t : Tg) (body : EnvQ → Sto → RS) : List D → EnvQ → Sto → RS
  | [], env, S => .next env S
  | d :: ds, env, S => match t.set d env with
    | none => .stuck
    | some env1 => match body env1 S with
      | .next env2 S2 => forL t body ds env2 S2
      | .cont env2 S2 => forL t body ds env2 S2
      | .brk env2 S2 => .next env2 S2
      | r => r
def sFor (t : Tg) (it : SI) (body : SS) : SS := fun cf env S => (it cf env S).then env fun ds S' => forL t (body cf) ds env S'
def whileL (c : EnvQ → Sto → R Bool) (body : EnvQ → Sto → RS) : Nat → EnvQ → Sto → RS
  | 0, _, _ => .stuck
  | n + 1, env, S => (c env S).then env fun k S1 => if k = true then (match body env S1 with
      | .next env2 S2 => whileL c body n env2 S2
      | .cont env2 S2 => whileL c body n env2 S2
      | .brk env2 S2 => .next env2 S2
      | r => r) else .next env S1
/-- n: more turns than there are -/
def sWhile (n : Nat) (c : ST) (body : SS) : SS := fun cf env S => whileL (c cf) (body cf) n env S

section
variable {X : Cx} {cf : CF} {EX : WX} {F : Addr → Prop} {σ : L2.St} {env : EnvQ} {S S' : Sto} {H H' : Hp} {μ μ' : List Addr} {K : PySem.W.Frag} {mg : Str → Option Value} {st : Stmt} {sts body : List Stmt} {e c : Expr} {fa fb : SE} {gc : ST} {ha : SA} {f g : SS} {pos p : Pos} {x : Str}
theorem mss_nil : MSs X cf EX [] sNext := PSs.weak pss_nil fun D σ H ⟨env, S, μ, F, s, q⟩ => q σ H μ s (ExS.refl _ _ _ _)
theorem mss_cons (h1 : MS X cf EX st f) (h2 : MSs X cf EX sts g) : MSs X cf EX (st :: sts) (sSeq f g) := PSs.weak (pss_cons h1 h2) fun D σ H ⟨env, S, μ, F, s, q⟩ => ⟨env, S, μ, F, s, by
  have z := PostS.seq q
  generalize hr : f cf env S = r at z
  cases r with
  | next e S' => exact fun σ2 H2 μ2 s2 x2 => let ⟨e2, S2, μ3, s3, q3⟩ := z σ2 H2 μ2 s2 x2; ⟨e2, S2, μ3, F, s3, q3⟩
  | brk e S' => exact z
  | cont e S' => exact z
  | ret w S' => exact z
  | exc c e S' => exact z
  | stuck => exact z⟩
theorem mss_one (h1 : MS X cf EX st f) : MSs X cf EX [st] f := pss_one h1
/-- a word without a text -/
theorem mss_pre {f0 : SS} (h0 : ∀ cf D σ H, tS X.K X.mg cf EX f0 D σ H → D.nx σ H) (h : MSs X cf EX sts g) : MSs X cf EX sts (sSeq f0 g) := PSs.weak h fun D σ H ⟨env, S, μ, F, s, q⟩ => by
  have z := PostS.seq q
  have w := h0 cf { D with nx := fun σ' H' => ∃ env' S' μ', Sim X.K X.mg F σ' H' env' S' μ' ∧ PostS X.K X.mg EX F σ' env' H' μ' (g cf env' S') D } σ H ⟨env, S, μ, F, s, z⟩
  obtain ⟨e2, S2, μ3, s3, q3⟩ := w
  exact ⟨e2, S2, μ3, F, s3, q3⟩
theorem ms_pass : MS X cf EX (.Pass pos) sNext := PS.weak ps_pass fun D σ H ⟨env, S, μ, F, s, q⟩ => q σ H μ s (ExS.refl _ _ _ _)
theorem ms_break : MS X cf EX (.Break pos) sBreak := PS.weak ps_break fun D σ H ⟨env, S, μ, F, s, q⟩ => q σ H μ s (ExS.refl _ _ _ _)
theorem ms_continue : MS X cf EX (.Continue pos) sCont := PS.weak ps_continue fun D σ H ⟨env, S, μ, F, s, q⟩ => q σ H μ s (ExS.refl _ _ _ _)
theorem ms_never : MS X cf EX st sNever := PS.weak ps_never fun D σ H ⟨env, S, μ, F, s, q⟩ => q.elim
theorem ms_if {a b : List Stmt} (hc : MT X cf EX c gc) (h1 : MSs X cf EX a f) (h2 : MSs X cf EX b g) : MS X cf EX (.If c a b pos) (sIf gc f g) :=
  PS.weak (ps_if hc h1 h2) fun D σ H ⟨env, S, μ, F, s, q⟩ => ⟨env, S, μ, F, s, (PostS.expr q).mono fun k S1 H1 μ1 s1 x1 q1 => by
    cases k with
    | true => rw [if_pos rfl] at q1 ⊢; exact ⟨env, S1, μ1, F, s1, q1⟩
    | false => rw [if_neg Bool.false_ne_true] at q1 ⊢; exact ⟨env, S1, μ1, F, s1, q1⟩⟩
theorem ms_expr (h : ME X cf EX e fa) (hs : swapsWith e none pos.line X.env = pure false := by rfl) : MS X cf EX (.Expr e pos) (sExpr fa) :=
  PS.weak (ps_expr h hs) fun D σ H ⟨env, S, μ, F, s, q⟩ => ⟨env, S, μ, F, s, (PostS.expr q).mono fun w S1 H1 μ1 s1 x1 q1 v rv => q1 σ H1 μ1 s1 (ExS.refl _ _ _ _)⟩
/-- the slots of one's own are no more -/
theorem Sim.leave (s : Sim K mg F σ H env S μ) : SimR K mg F H S μ ∧ Keep (MM μ σ env) H (· ∈ μ) H := ⟨⟨s.st.sub fun a h => h.elim (fun h => .inl (.inl h)) .inr, s.ftr, fun a f m => s.fdis a f (.inl m)⟩, Keep.sub fun a h => .inl h⟩
theorem rw_told {v : V} {w : W} (s : Sim K mg F σ H env S μ) (fi : w.fine = true) (ow : w.isOwn = true → ∀ a, v = .ref a → a ∉ μ ∧ ¬ F a) (r : RW K mg H (NN F μ σ env) μ v w) : RW K mg H (NR F μ) μ v w.told := by
  have sub : ∀ a, NR F μ a → NN F μ σ env a := fun a h => h.elim (fun h => .inl (.inl h)) .inr
  cases r with
  | own e t =>
    obtain ⟨n1, n2⟩ := ow rfl _ rfl
    exact .d (.lst ⟨fun h => h.elim n1 n2, e⟩ (t.keep (Keep.sub sub)))
  | d t => exact RW.sub sub (.d t)
  | ref t => exact RW.sub sub (.ref t)
  | tw n e t => exact RW.sub sub (.tw n e t)
  | fn t => exact RW.sub sub (.fn t)
  | scr t => exact RW.sub sub (.scr t)
theorem W.told_plain {w : W} (h : w.plain = true) : w.told = w := by
  cases w <;> first | rfl | simp [W.plain] at h
def sRetP (f : SE) : SS := fun cf env S => (f cf env S).then env fun w S' => if w.plain then .ret w S' else .stuck
theorem ms_ret (h : ME X cf EX e fa) : MS X cf EX (.Return (some e) pos) (sRetP fa) :=
  PS.weak (ps_ret h) fun D σ H ⟨env, S, μ, F, s, q⟩ => ⟨env, S, μ, F, s, (PostS.expr q).mono fun w S1 H1 μ1 s1 x1 q1 v rv => by
    split at q1
    · obtain ⟨r, k⟩ := s1.leave
      exact q1 v H1 μ1 r k (List.prefix_refl _) (RW.sub (fun a h => h.elim (fun h => .inl (.inl h)) .inr) rv)
    · exact q1.elim⟩
def sRetO (i : Nat) : SS := fun _ env S => match env[i]? with
  | some (some (.own xs)) => .ret (.d (.list xs)) S
  | _ => .stuck
theorem ms_retO {i : Nat} {pp : Pos} (h : PE X (.Name x pp) (tVar i)) : MS X cf EX (.Return (some (.Name x pp)) pos) (sRetO i) :=
  PS.weak (ps_ret h) fun D σ H ⟨env, S, μ, F, s, q⟩ => by
    unfold sRetO at q
    split at q
    · rename_i e
      obtain ⟨v, hv, r⟩ := s.slot i _ e
      refine ⟨v, hv, ?_⟩
      obtain ⟨sr, k⟩ := s.leave
      refine q v H μ sr k (List.prefix_refl _) ?_
      refine rw_told s rfl (fun _ a ea => ?_) r
      subst ea
      have o : OwnAt σ env i a := ⟨hv, _, e, rfl⟩
      exact ⟨s.apart i a o, fun f => s.fdis a f (.inr ⟨i, o⟩)⟩
    · exact q.elim
theorem ms_retN : MS X cf EX (.Return none pos) sRetN := PS.weak ps_retN fun D σ H ⟨env, S, μ, F, s, q⟩ =>
  let ⟨r, k⟩ := s.leave; q .non H μ r k (List.prefix_refl _) (.d .non)

theorem set_get {α : Type} {l : List α} {i j : Nat} {x y : α} (h : (l.set i x)[j]? = some y) : (j = i ∧ y = x) ∨ (j ≠ i ∧ l[j]? = some y) := by
  by_cases e : j = i
  · subst e
    by_cases hl : j < l.length
    · rw [List.getElem?_set_self hl] at h
      exact .inl ⟨rfl, (Option.some.inj h).symm⟩
    · rw [List.getElem?_eq_none (by simpa using hl)] at h
      cases h
  · rw [List.getElem?_set_ne (Ne.symm e)] at h
    exact .inr ⟨e, h⟩
theorem fine_own {w : W} (h : w.isOwn = true) : w.plain = false := by
  cases w <;> first | rfl | simp [W.isOwn] at h
theorem own_set {i j : Nat} {v : V} {w : W} {a : Addr} (pw : w.isOwn = false) (hl : σ.length = env.length) (h : OwnAt (σ.set i (some v)) (env.set i (some w)) j a) : j ≠ i ∧ OwnAt σ env j a := by
  obtain ⟨h1, u, h2, h3⟩ := h
  rcases set_get h2 with ⟨e, z⟩ | ⟨n, z⟩
  · cases z
    rw [pw] at h3
    cases h3
  · rcases set_get h1 with ⟨e, _⟩ | ⟨_, y⟩
    · exact absurd e n
    · exact ⟨n, y, u, z, h3⟩
theorem plain_notOwn {w : W} (h : w.plain = true) : w.isOwn = false := by
  cases e : w.isOwn with
  | false => rfl
  | true => rw [fine_own e] at h; cases h
theorem Sim.set (s : Sim K mg F σ H env S μ) {i : Nat} {v : V} {w : W} (pw : w.plain = true) (r : RW K mg H (NN F μ σ env) μ v w) : Sim K mg F (σ.set i (some v)) H (env.set i (some w)) S μ ∧ ExS σ env H μ (σ.set i (some v)) (env.set i (some w)) H μ := by
  have no := plain_notOwn pw
  have sub : ∀ a, MM μ (σ.set i (some v)) (env.set i (some w)) a → MM μ σ env a := fun a h => h.elim .inl fun ⟨j, h⟩ => .inr ⟨j, (own_set no s.len h).2⟩
  have subN : ∀ a, NN F μ (σ.set i (some v)) (env.set i (some w)) a → NN F μ σ env a := fun a h => h.elim (fun h => .inl (sub a h)) .inr
  refine ⟨⟨by simpa using s.len, fun j u e => ?_, fun j u e => ?_, fun j k a h1 h2 => s.inj j k a (own_set no s.len h1).2 (own_set no s.len h2).2, fun j a h => s.apart j a (own_set no s.len h).2, s.st.sub subN, s.ftr, fun a f h => s.fdis a f (sub a h)⟩, Keep.sub sub, List.prefix_refl _⟩
  · rcases set_get e with ⟨z, y⟩ | ⟨n, z⟩
    · subst z
      cases y
      have hl : j < σ.length := by
        rw [s.len]
        have q := (List.getElem?_eq_some_iff.mp e).1
        simpa using q
      exact ⟨v, List.getElem?_set_self hl, RW.sub subN r⟩
    · obtain ⟨v', h1, h2⟩ := s.slot j u z
      exact ⟨v', by rw [List.getElem?_set_ne (Ne.symm n)]; exact h1, RW.sub subN h2⟩
  · rcases set_get e with ⟨z, y⟩ | ⟨n, z⟩
    · cases y
      unfold W.fine
      rw [pw, Bool.true_or]
    · exact s.fin j u z
theorem ms_set {i : Nat} {pp : Pos} (hN : X.N.Nodup) (hi : X.N[i]? = some x) (hx : Loc X.env.scope x) (h : ME X cf EX e fa) (hs : swapsWith e (some (.Name x pp)) pos.line X.env = pure false := by rfl) (hf : X.fn x = true ∨ X.env.scope.names.lookup x = some .local := by first | exact .inl rfl | exact .inr rfl | assumption) :
    MS X cf EX (.Assign [.Name x pp] e pos) (sSet i fa) :=
  PS.weak (ps_set hN hi hx h hs hf) fun D σ H ⟨env, S, μ, F, s, q⟩ => ⟨env, S, μ, F, s, (PostS.expr q).mono fun w S1 H1 μ1 s1 x1 q1 v rv => by
    split at q1
    · rename_i pw
      obtain ⟨s2, x2⟩ := s1.set pw rv
      exact q1 _ H1 μ1 s2 x2
    · exact q1.elim⟩
/-- a new list of one's own at p -/
theorem Sim.newOwn (s : Sim K mg F σ H env S μ) {i : Nat} {p : Addr} {vs : List V} {xs : List D} (n : H p = none) (t : DnAll K H (NN F μ σ env) vs xs) :
    Sim K mg F (σ.set i (some (.ref p))) (upd H p (.lst vs)) (env.set i (some (.own xs))) S μ ∧ ExS σ env H μ (σ.set i (some (.ref p))) (env.set i (some (.own xs))) (upd H p (.lst vs)) μ := by
  have ow : ∀ j a, OwnAt (σ.set i (some (.ref p))) (env.set i (some (.own xs))) j a → (j = i ∧ a = p) ∨ (j ≠ i ∧ OwnAt σ env j a) := fun j a ⟨h1, u, h2, h3⟩ => by
    rcases set_get h2 with ⟨e, z⟩ | ⟨n, z⟩
    · rcases set_get h1 with ⟨_, y⟩ | ⟨ne, _⟩
      · cases y
        exact .inl ⟨e, rfl⟩
      · exact absurd e ne
    · rcases set_get h1 with ⟨e, _⟩ | ⟨_, y⟩
      · exact absurd e n
      · exact .inr ⟨n, y, u, z, h3⟩
  have sub : ∀ a, MM μ (σ.set i (some (.ref p))) (env.set i (some (.own xs))) a → a = p ∨ MM μ σ env a := fun a h => h.elim (fun h => .inr (.inl h)) fun ⟨j, h⟩ => (ow j a h).elim (fun h => .inl h.2) fun h => .inr (.inr ⟨j, h.2⟩)
  have np : ∀ a, NN F μ σ env a → a ≠ p := fun a h e => by
    subst e
    exact s.fresh n h
  have kp : Keep (MM μ σ env) H (MM μ (σ.set i (some (.ref p))) (env.set i (some (.own xs)))) (upd H p (.lst vs)) := fun a o na e => by
    have ne : a ≠ p := ne_of_none e n
    exact ⟨by rw [upd_ne ne]; exact e, fun h => (sub a h).elim ne na⟩
  have ex : ExS σ env H μ (σ.set i (some (.ref p))) (env.set i (some (.own xs))) (upd H p (.lst vs)) μ := ⟨kp, List.prefix_refl _⟩
  have kn := ex.nn F
  refine ⟨⟨by simpa using s.len, fun j u e => ?_, fun j u e => ?_, fun j k a h1 h2 => ?_, fun j a h m => ?_, ⟨s.st.len, s.st.nd, fun k o e => ?_⟩, fun a f => ?_, fun a f h => ?_⟩, ex⟩
  · rcases set_get e with ⟨z, y⟩ | ⟨nj, z⟩
    · subst z
      cases y
      have hl : j < σ.length := by
        rw [s.len]
        have q := (List.getElem?_eq_some_iff.mp e).1
        simpa using q
      exact ⟨_, List.getElem?_set_self hl, .own upd_same (t.keep kn)⟩
    · obtain ⟨v', h1, h2⟩ := s.slot j u z
      refine ⟨v', by rw [List.getElem?_set_ne (Ne.symm nj)]; exact h1, ?_⟩
      by_cases po : u.isOwn = true
      · obtain ⟨a, vs', xs', rfl, rfl, ha, ta⟩ := own_or_plain h2 po
        exact .own (by rw [upd_ne (ne_of_none ha n)]; exact ha) (ta.keep kn)
      · have pl : u.plain = true := by
          have fi := s.fin j u z
          unfold W.fine at fi
          simpa [po] using fi
        exact RW.keep kn (List.prefix_refl _) h2 pl
  · rcases set_get e with ⟨z, y⟩ | ⟨n, z⟩
    · cases y
      rfl
    · exact s.fin j u z
  · rcases ow j a h1 with ⟨e1, e2⟩ | ⟨e1, e2⟩
    · rcases ow k a h2 with ⟨e3, _⟩ | ⟨_, e4⟩
      · rw [e1, e3]
      · exact absurd e2 (np a (.inl (.inr ⟨k, e4⟩)))
    · rcases ow k a h2 with ⟨_, e4⟩ | ⟨_, e4⟩
      · exact absurd e4 (np a (.inl (.inr ⟨j, e2⟩)))
      · exact s.inj j k a e2 e4
  · rcases ow j a h with ⟨_, e2⟩ | ⟨_, e2⟩
    · subst e2
      obtain ⟨u, hu⟩ := s.st.tracked m
      rw [n] at hu
      cases hu
    · exact s.apart j a e2 m
  · obtain ⟨a, ha, r⟩ := s.st.obj k o e
    refine ⟨a, ha, ?_⟩
    cases r with
    | lst h t' => exact .lst (by rw [upd_ne (ne_of_none h n)]; exact h) (t'.keep kn)
    | ins g h m t' pl => exact .ins g (by rw [upd_ne (ne_of_none h n)]; exact h) m (RWs.keep kn (List.prefix_refl _) t' pl) pl
  · obtain ⟨u, hu⟩ := s.ftr a f
    exact ⟨u, by rw [upd_ne (ne_of_none hu n)]; exact hu⟩
  · rcases sub a h with e | h
    · exact np a (.inr f) e
    · exact s.fdis a f h
theorem ms_new {i : Nat} {pp lp : Pos} {es : List Expr} (hN : X.N.Nodup) (hi : X.N[i]? = some x) (hx : Loc X.env.scope x) (h : MA X cf EX es ha) (hs : swapsWith (.List es lp) (some (.Name x pp)) pos.line X.env = pure false := by rfl) (hf : X.fn x = true ∨ X.env.scope.names.lookup x = some .local := by first | exact .inl rfl | exact .inr rfl | assumption) :
    MS X cf EX (.Assign [.Name x pp] (.List es lp) pos) (sNew i ha) :=
  PS.weak (ps_set hN hi hx (pe_lst h) hs hf) fun D σ H ⟨env, S, μ, F, s, q⟩ => ⟨env, S, μ, F, s, (PostS.expr q).mono fun ws S1 H1 μ1 s1 x1 q1 vs rvs => by
    split at q1
    · rename_i hl
      refine ⟨by rw [← lim_line, rvs.length]; exact hl, fun p n => ?_⟩
      split at q1
      · rename_i ds e
        obtain ⟨s2, x2⟩ := s1.newOwn (i := i) n (datas_dn rvs e)
        exact q1 _ _ μ1 s2 x2
      · exact q1.elim
    · exact q1.elim⟩
/-- one's own list at slot i becomes another -/
theorem Sim.chOwn (s : Sim K mg F σ H env S μ) {i : Nat} {a : Addr} {vs : List V} {xs : List D} {w : W} (e : env[i]? = some (some w)) (ho : w.isOwn = true) (hv : σ[i]? = some (some (.ref a))) (t : DnAll K H (NN F μ σ env) vs xs) :
    Sim K mg F σ (upd H a (.lst vs)) (env.set i (some (.own xs))) S μ ∧ ExS σ env H μ σ (env.set i (some (.own xs))) (upd H a (.lst vs)) μ := by
  have oa : OwnAt σ env i a := ⟨hv, w, e, ho⟩
  have hl : i < env.length := (List.getElem?_eq_some_iff.mp e).1
  have ow : ∀ j b, OwnAt σ (env.set i (some (.own xs))) j b ↔ OwnAt σ env j b := fun j b => by
    refine ⟨fun ⟨h1, u, h2, h3⟩ => ?_, fun ⟨h1, u, h2, h3⟩ => ?_⟩
    · rcases set_get h2 with ⟨z, _⟩ | ⟨_, z⟩
      · subst z
        exact ⟨h1, w, e, ho⟩
      · exact ⟨h1, u, z, h3⟩
    · by_cases z : j = i
      · subst z
        exact ⟨h1, _, List.getElem?_set_self hl, rfl⟩
      · exact ⟨h1, u, by rw [List.getElem?_set_ne (Ne.symm z)]; exact h2, h3⟩
  have mm : ∀ b, MM μ σ (env.set i (some (.own xs))) b ↔ MM μ σ env b := fun b => ⟨fun h => h.elim .inl fun ⟨j, h⟩ => .inr ⟨j, (ow j b).mp h⟩, fun h => h.elim .inl fun ⟨j, h⟩ => .inr ⟨j, (ow j b).mpr h⟩⟩
  have ma : MM μ σ env a := .inr ⟨i, oa⟩
  have kp : Keep (MM μ σ env) H (MM μ σ (env.set i (some (.own xs)))) (upd H a (.lst vs)) := fun b o nb q => by
    have ne : b ≠ a := fun z => nb (z ▸ ma)
    exact ⟨by rw [upd_ne ne]; exact q, fun h => nb ((mm b).mp h)⟩
  have ex : ExS σ env H μ σ (env.set i (some (.own xs))) (upd H a (.lst vs)) μ := ⟨kp, List.prefix_refl _⟩
  have kn := ex.nn F
  refine ⟨⟨by simpa using s.len, fun j u q => ?_, fun j u q => ?_, fun j k b h1 h2 => s.inj j k b ((ow j b).mp h1) ((ow k b).mp h2), fun j b h => s.apart j b ((ow j b).mp h), ⟨s.st.len, s.st.nd, fun k o q => ?_⟩, fun b f => ?_, fun b f h => s.fdis b f ((mm b).mp h)⟩, ex⟩
  · rcases set_get q with ⟨z, y⟩ | ⟨nj, z⟩
    · subst z
      cases y
      exact ⟨_, hv, .own upd_same (t.keep kn)⟩
    · obtain ⟨v', h1, h2⟩ := s.slot j u z
      refine ⟨v', h1, ?_⟩
      by_cases po : u.isOwn = true
      · obtain ⟨b, vs', xs', rfl, rfl, hb, tb⟩ := own_or_plain h2 po
        have ob : OwnAt σ env j b := ⟨h1, _, z, rfl⟩
        have ne : b ≠ a := fun y => nj (s.inj j i a (y ▸ ob) oa)
        exact .own (by rw [upd_ne ne]; exact hb) (tb.keep kn)
      · have pl : u.plain = true := by
          have fi := s.fin j u z
          unfold W.fine at fi
          simpa [po] using fi
        exact RW.keep kn (List.prefix_refl _) h2 pl
  · rcases set_get q with ⟨z, y⟩ | ⟨n, z⟩
    · cases y
      rfl
    · exact s.fin j u z
  · obtain ⟨b, hb, r⟩ := s.st.obj k o q
    refine ⟨b, hb, ?_⟩
    have ne : b ≠ a := fun z => s.apart i a oa (z ▸ List.mem_of_getElem? hb)
    cases r with
    | lst h t' => exact .lst (by rw [upd_ne ne]; exact h) (t'.keep kn)
    | ins g h m t' pl => exact .ins g (by rw [upd_ne ne]; exact h) m (RWs.keep kn (List.prefix_refl _) t' pl) pl
  · obtain ⟨u, hu⟩ := s.ftr b f
    have ne : b ≠ a := fun z => s.fdis b f (z ▸ ma)
    exact ⟨u, by rw [upd_ne ne]; exact hu⟩
theorem ms_app {i : Nat} {p1 p2 : Pos} (hv : PE X (.Name x p1) (tVar i)) (h : ME X cf EX e fa)
    (hbase : attributeBase (.Name x p1) "append" X.env (eval (.Name x p1) X.env) = eval (.Name x p1) X.env := by rfl)
    (hfew : ((backTo p (starEach (e :: []) X.env)).all (fun x => !x.1) && (backToKw p (keywordEach [] X.env)).all (fun x => x.1.isSome) && decide ((e :: []).length + ([] : List Keyword).length + (if ([] : List Keyword).isEmpty then 0 else 1) < 30)) = true := by rfl)
    (hline : (p2.endLine == p.line) = true := by rfl) (hst : starEach (e :: []) X.env = (false, eval e X.env) :: starEach [] X.env := by rfl) (hplain : (backTo p (starEach [] X.env)).any (·.1) = false := by rfl)
    (hs : swapsWith (.Call (.Attribute (.Name x p1) "append" p2) [e] [] p) none pos.line X.env = pure false := by rfl) :
    MS X cf EX (.Expr (.Call (.Attribute (.Name x p1) "append" p2) [e] [] p) pos) (sApp i fa) := by
  refine PS.weak (ps_expr (pe_bm PySem.F.plainAttrs_list PySem.F.slot_list_append PySem.F.type_list_append mt_append hv (pa_cons h pa_nil hst) hbase hfew hline hst hplain) hs) fun D σ H ⟨env, S, μ, F, s, q⟩ => ?_
  unfold sApp at q
  split at q
  · rename_i xs e0
    obtain ⟨v, hv0, r⟩ := s.slot i _ e0
    cases r with
    | own ha ta =>
      refine ⟨_, hv0, .inl ⟨rfl, _, SqL.of ha⟩, env, S, μ, F, s, (PostS.expr q).mono fun w S1 H1 μ1 s1 x1 q1 v rv => ?_⟩
      split at q1
      · split at q1
        · rename_i hz
          obtain ⟨v', hv1, r1⟩ := s1.slot i _ e0
          rw [hv0] at hv1
          cases hv1
          cases r1 with
          | own ha1 ta1 =>
            cases rv with
            | d rd =>
              refine ⟨_, _, v, rfl, rfl, ha1, by rw [← lim_line, ta1.length]; exact hz, ?_⟩
              obtain ⟨s2, x2⟩ := s1.chOwn (i := i) e0 rfl hv0 (ta1.append (.cons rd .nil))
              exact q1 _ _ μ1 s2 x2
        · exact q1.elim
      · exact q1.elim
  · exact q.elim
theorem Sim.freeze (s : Sim K mg F σ H env S μ) {i : Nat} {xs : List D} (e : env[i]? = some (some (.own xs))) : Sim K mg F σ H (env.set i (some (.d (.list xs)))) S μ ∧ ExS σ env H μ σ (env.set i (some (.d (.list xs)))) H μ := by
  have hl : i < env.length := (List.getElem?_eq_some_iff.mp e).1
  have ow : ∀ j a, OwnAt σ (env.set i (some (.d (.list xs)))) j a → j ≠ i ∧ OwnAt σ env j a := fun j a ⟨h1, u, h2, h3⟩ => by
    rcases set_get h2 with ⟨z, y⟩ | ⟨n, z⟩
    · cases y
      simp [W.isOwn] at h3
    · exact ⟨n, h1, u, z, h3⟩
  have sub : ∀ a, MM μ σ (env.set i (some (.d (.list xs)))) a → MM μ σ env a := fun a h => h.elim .inl fun ⟨j, h⟩ => .inr ⟨j, (ow j a h).2⟩
  have subN : ∀ a, NN F μ σ (env.set i (some (.d (.list xs)))) a → NN F μ σ env a := fun a h => h.elim (fun h => .inl (sub a h)) .inr
  refine ⟨⟨by simpa using s.len, fun j u q => ?_, fun j u q => ?_, fun j k a h1 h2 => s.inj j k a (ow j a h1).2 (ow k a h2).2, fun j a h => s.apart j a (ow j a h).2, s.st.sub subN, s.ftr, fun a f h => s.fdis a f (sub a h)⟩, Keep.sub sub, List.prefix_refl _⟩
  · rcases set_get q with ⟨z, y⟩ | ⟨n, z⟩
    · subst z
      cases y
      obtain ⟨v, hv, r⟩ := s.slot j _ e
      refine ⟨v, hv, ?_⟩
      cases r with
      | @own a _ _ ha ta =>
        have oa : OwnAt σ env j a := ⟨hv, _, e, rfl⟩
        refine .d (.lst ⟨fun h => ?_, ha⟩ (ta.keep (Keep.sub subN)))
        rcases h with (h | ⟨k, h⟩) | h
        · exact s.apart j a oa h
        · exact (ow k a h).1 (s.inj k j a (ow k a h).2 oa)
        · exact s.fdis a h (.inr ⟨j, oa⟩)
    · obtain ⟨v', h1, h2⟩ := s.slot j u z
      exact ⟨v', h1, RW.sub subN h2⟩
  · rcases set_get q with ⟨z, y⟩ | ⟨n, z⟩
    · cases y
      rfl
    · exact s.fin j u z
theorem mss_freeze {i : Nat} (h : MSs X cf EX sts g) : MSs X cf EX sts (sSeq (sFreeze i) g) := mss_pre (fun cf D σ H ⟨env, S, μ, F, s, q⟩ => by
  unfold sFreeze at q
  split at q
  · rename_i e
    obtain ⟨s2, x2⟩ := s.freeze e
    exact q σ H μ s2 x2
  · exact q.elim) h
end
end Q

namespace Q
open PySem PySem.Spec PyProof.Rows L2
section
variable {X : Cx} {cf : CF} {EX : WX} {F : Addr → Prop} {σ : L2.St} {env : EnvQ} {S S' : Sto} {H H' : Hp} {μ μ' : List Addr} {K : PySem.W.Frag} {mg : Str → Option Value} {st : Stmt} {sts body : List Stmt} {e c tg : Expr} {es : List Expr} {fa fb : SE} {gc : ST} {ha : SA} {f g : SS} {pos p : Pos} {x : Str}

/-- which slots an assignment touches -/
def Tg.slots : Tg → List Nat
  | .name i => [i]
  | .names is => is
/-- the slots but these are as they were -/
def Only1 (is : List Nat) (σ σ' : L2.St) : Prop := σ'.length = σ.length ∧ ∀ j, j ∉ is → σ'[j]? = σ[j]?
/-- a target: where a datum goes -/
def tG (K : PySem.W.Frag) (mg : Str → Option Value) (t : Tg) : TG := fun v σ H Q => ∃ F env S μ d env', Sim K mg F σ H env S μ ∧ Dn K H (NN F μ σ env) v d ∧ t.set d env = some env' ∧ ∀ σ', Sim K mg F σ' H env' S μ → ExS σ env H μ σ' env' H μ → Only1 t.slots σ σ' → Q σ' H
def tGs (K : PySem.W.Frag) (mg : Str → Option Value) (is : List Nat) : TGs := fun vs σ H Q => ∃ F env S μ ds env', Sim K mg F σ H env S μ ∧ DnAll K H (NN F μ σ env) vs ds ∧ setAll is ds env = some env' ∧ ∀ σ', Sim K mg F σ' H env' S μ → ExS σ env H μ σ' env' H μ → Only1 is σ σ' → Q σ' H
def MG (X : Cx) (tg : Expr) (t : Tg) : Prop := PG X tg (tG X.K X.mg t)
def MGs (X : Cx) (tgs : List Expr) (is : List Nat) : Prop := PGs X tgs (tGs X.K X.mg is)
theorem PG.weak {X : Cx} {tg : Expr} {t t' : TG} (h : PG X tg t) (w : ∀ v σ H Q, t' v σ H Q → t v σ H Q) : PG X tg t' := ⟨fun pins s σ H v u Q I r q => h.run pins s σ H v u Q I r (w v σ H Q q)⟩
theorem PGs.weak {X : Cx} {tgs : List Expr} {t t' : TGs} (h : PGs X tgs t) (w : ∀ vs σ H Q, t' vs σ H Q → t vs σ H Q) : PGs X tgs t' := ⟨fun pins s σ H vs us Q I r q => h.run pins s σ H vs us Q I r (w vs σ H Q q)⟩
theorem mg_name {i : Nat} (hN : X.N.Nodup) (hi : X.N[i]? = some x) (hx : Loc X.env.scope x) (hf : X.fn x = true ∨ X.env.scope.names.lookup x = some .local := by first | exact .inl rfl | exact .inr rfl | assumption) : MG X (.Name x pos) (.name i) :=
  PG.weak (pg_name hN hi hx hf) fun v σ H Q ⟨F, env, S, μ, d, env', s, r, e, q⟩ => by
    simp only [Tg.set, Option.some.injEq] at e
    subst e
    obtain ⟨s2, x2⟩ := s.set (i := i) (w := .d d) rfl (.d r)
    exact q _ s2 x2 ⟨by simp, fun j hj => by rw [List.getElem?_set_ne (fun z => hj (by simp [Tg.slots, z]))]⟩
theorem mgs_nil : MGs X [] [] := PGs.weak pgs_nil fun vs σ H Q ⟨F, env, S, μ, ds, env', s, r, e, q⟩ => by
  cases r with
  | nil =>
    simp only [setAll, Option.some.injEq] at e
    subst e
    exact ⟨rfl, q σ s (ExS.refl _ _ _ _) ⟨rfl, fun _ _ => rfl⟩⟩
  | cons _ _ => simp [setAll] at e
theorem mgs_cons {i : Nat} {is : List Nat} (h1 : MG X e (.name i)) (h2 : MGs X es is) (hs : (assignEach (e :: es) X.env).map (·.2) = assign e X.env :: (assignEach es X.env).map (·.2) := by rfl) : MGs X (e :: es) (i :: is) :=
  PGs.weak (pgs_cons h1 h2 hs) fun vs σ H Q ⟨F, env, S, μ, ds, env', s, r, e, q⟩ => by
    cases r with
    | nil => simp [setAll] at e
    | cons rv rr =>
      simp only [setAll] at e
      refine ⟨_, _, rfl, F, env, S, μ, _, _, s, rv, rfl, fun σ' s' x' o' => ?_⟩
      exact ⟨F, _, S, μ, _, env', s', rr.keep (x'.nn F), e, fun σ2 s2 x2 o2 => q σ2 s2 (x'.trans x2) ⟨o2.1.trans o'.1, fun j hj => by
        simp only [List.mem_cons, not_or] at hj
        rw [o2.2 j hj.2, o'.2 j (by simpa [Tg.slots] using hj.1)]⟩⟩
theorem setAll_len : ∀ {is : List Nat} {ds : List D} {env env' : EnvQ}, setAll is ds env = some env' → ds.length = is.length
  | [], [], _, _, _ => rfl
  | [], _ :: _, _, _, e => by simp [setAll] at e
  | _ :: _, [], _, _, e => by simp [setAll] at e
  | _ :: _, _ :: _, _, _, e => congrArg (· + 1) (setAll_len (by simpa [setAll] using e))
theorem mg_names {is : List Nat} {k : Nat} (hc : X.calm = true) (h : MGs X es is) (hn : (assignEach es X.env).length = is.length := by rfl) (hst : (assignEach es X.env).findIdx? (·.1) = none := by rfl) : MG X (.Tuple es k pos) (.names is) :=
  PG.weak (pg_tup hc h hn hst) fun v σ H Q ⟨F, env, S, μ, d, env', s, rv, e, q⟩ => by
    cases rv with
    | tup ht tt => exact ⟨_, _, rfl, ht.sq, by rw [tt.length]; exact setAll_len e, F, env, S, μ, _, env', s, tt, e, q⟩
    | _ => simp [Tg.set] at e
theorem ms_unp {is : List Nat} {k : Nat} (h1 : ME X cf EX e fa) (h2 : MG X (.Tuple es k p) (.names is)) (hs : swapsWithSole [.Tuple es k p] e pos.line X.env = pure false := by rfl) (hw : swappedStores [.Tuple es k p] e X.env = pure none := by rfl)
    (h3 : (assignEach [.Tuple es k p] X.env).map (·.2) = [assign (.Tuple es k p) X.env] := by rfl) : MS X cf EX (.Assign [.Tuple es k p] e pos) (sUnp is fa) := by
  refine PS.weak (ps_asg h1 h2 hs hw h3) fun D σ H ⟨env, S, μ, F, s, q⟩ => ⟨env, S, μ, F, s, (PostS.expr q).mono fun w S1 H1 μ1 s1 x1 q1 v rv => ?_⟩
  split at q1
  · cases rv with
    | d rd =>
      split at q1
      · rename_i env' e
        exact ⟨F, env, S1, μ1, _, env', s1, rd, by simpa [Tg.set] using e, fun σ' s' x' _ => q1 σ' H1 μ1 s' x'⟩
      · exact q1.elim
  · exact q1.elim

/-- J yields the items ds, as long as what stood stands -/
def IterOf (K : PySem.W.Frag) (J : It) (ds : List D) (N : Addr → Prop) (H : Hp) : Prop := ∀ N2 H2, Keep N H N2 H2 → (∀ a, N2 a → ∃ u, H2 a = some u) → ∀ i : Nat,
  (i = ds.length → J.stop i H2) ∧ ∀ d, ds[i]? = some d → J.go i H2 ∧ ∀ v H3, J.yld i H2 v H3 → Same H2 H3 ∧ Dn K H3 N2 v d
def tI (K : PySem.W.Frag) (mg : Str → Option Value) (cf : CF) (EX : WX) (f : SI) : TI := fun σ H R => ∃ env S μ F, Sim K mg F σ H env S μ ∧ Post K mg EX F σ env H μ (f cf env S) fun ds _ H' μ' => ∀ J, IterOf K J ds (NN F μ' σ env) H' → R J H'
def MI (X : Cx) (cf : CF) (EX : WX) (tg e : Expr) (f : SI) : Prop := PI X tg e (tI X.K X.mg cf EX f)
theorem PI.weak {X : Cx} {tg e : Expr} {t t' : TI} (h : PI X tg e t) (w : ∀ σ H R, t' σ H R → t σ H R) : PI X tg e t' := ⟨fun pins s σ H R I q => h.run pins s σ H R I (w σ H R q)⟩
/-- a list or a tuple -/
def iSeq (f : SE) : SI := fun cf env S => (f cf env S).bind fun w S1 => match w with
  | .d (.list xs) => .ok xs S1
  | .d (.tuple xs) => .ok xs S1
  | .scr xs => .ok (xs.map PyData.int) S1
  | _ => .stuck
theorem iter_list {a : Addr} {vs : List V} {ds : List D} {N : Addr → Prop} (hq : ∀ N2 H2, Keep N H N2 H2 → SqL K H2 a vs) (t : DnAll K H N vs ds) (inj : ∀ H2 xs, SqL K H2 a xs → SqL K H2 a vs → True) : IterOf K (Itl K a) ds N H := fun N2 H2 k tr i => by
  have t2 := t.keep k
  have q2 := hq N2 H2 k
  refine ⟨fun e => ⟨vs, q2, by rw [t.length]; exact Nat.le_of_eq e.symm⟩, fun d hd => ?_⟩
  obtain ⟨v, hv, r⟩ := t2.get hd
  refine ⟨⟨vs, v, q2, hv⟩, fun w H3 y => ?_⟩
  obtain ⟨e3, y⟩ := y
  subst e3
  have := y vs q2
  rw [hv] at this
  cases this
  exact ⟨Same.refl _, r⟩
theorem iter_tup {a : Addr} {vs : List V} {ds : List D} {N : Addr → Prop} (ht : RdT K H N a vs) (t : DnAll K H N vs ds) : IterOf K (Itt K a) ds N H := fun N2 H2 k tr i => by
  have t2 := t.keep k
  have q2 := (ht.keep k).sq
  refine ⟨fun e => ⟨vs, q2, by rw [t.length]; exact Nat.le_of_eq e.symm⟩, fun d hd => ?_⟩
  obtain ⟨v, hv, r⟩ := t2.get hd
  refine ⟨⟨vs, v, q2, hv⟩, fun w H3 y => ?_⟩
  obtain ⟨e3, y⟩ := y
  subst e3
  have := y vs q2
  rw [hv] at this
  cases this
  exact ⟨Same.refl _, r⟩
/-- either kind, told only when the value is there -/
theorem pi_seq {l : Expr} {tl : TE} (hl : PE X l tl) : PI X tg l (fun σ H R => tl σ H fun x H1 => ∃ a, x = .ref a ∧ (((∃ xs, SqL X.K H1 a xs) ∧ R (Itl X.K a) H1) ∨ ((∃ xs, SqT X.K H1 a xs) ∧ R (Itt X.K a) H1))) := by
  constructor
  intro pins s σ H R I h
  apply thn (hl.run pins s σ H _ I h)
  rintro v s1 ⟨x, H1, I1, r1, a, rfl, q⟩
  cases r1
  have fr : ∀ b, b ∈ [s1.heap.objs.size] → FpOk X pins H1 b := fun b hb => by
    rw [List.mem_singleton] at hb
    rw [hb]
    exact I1.fpOk (Nat.le_refl _) (I1.hok.fresh (Nat.le_refl _))
  rcases q with ⟨⟨xs, hq⟩, q⟩ | ⟨⟨xs, hq⟩, q⟩
  · obtain ⟨its, rv, p, hz⟩ := I1.list hq
    apply wpAny_pyIter_list p.isList
    exact ⟨_, _, _, _, H1, rfl, I1.kept (t' := s1.toks) fun b o e => Heap.get?_push_of_some _ e, turn_list a _, ⟨_, Heap.get?_push_size _ rfl, rfl, rfl⟩, fr, q⟩
  · obtain ⟨its, rv, p, hz⟩ := I1.tuple hq
    apply wpAny_pyIter_tuple (show s1.heap.IsTuple a its.toArray from p)
    exact ⟨_, _, _, _, H1, rfl, I1.kept (t' := s1.toks) fun b o e => Heap.get?_push_of_some _ e, turn_tuple a _, ⟨_, Heap.get?_push_size _ rfl, rfl, rfl⟩, fr, q⟩
theorem mi_seq (h : ME X cf EX e fa) : MI X cf EX tg e (iSeq fa) :=
  PI.weak (pi_seq h) fun σ H R ⟨env, S, μ, F, s, q⟩ => ⟨env, S, μ, F, s, (Post.bind q).mono fun w S1 H1 μ1 s1 x1 q1 v rv => by
    split at q1
    · obtain ⟨a, vs, rfl, na, h1, t1⟩ := rw_lst rv
      exact ⟨a, rfl, .inl ⟨⟨vs, SqL.of h1⟩, q1 H1 μ1 s1 (Ext.refl _ _ _ _) _ (iter_list (fun N2 H2 k => SqL.of (k a _ na h1).1) t1 fun _ _ _ _ => True.intro)⟩⟩
    · obtain ⟨a, vs, rfl, h1, t1⟩ := rw_tup rv
      exact ⟨a, rfl, .inr ⟨⟨vs, h1.sq⟩, q1 H1 μ1 s1 (Ext.refl _ _ _ _) _ (iter_tup h1 t1)⟩⟩
    · cases rv with
      | scr h1 => exact ⟨_, rfl, .inl ⟨⟨_, h1.sq⟩, q1 H1 μ1 s1 (Ext.refl _ _ _ _) _ (iter_list (fun N2 H2 k => (h1.keep k).sq) (ints_all _) fun _ _ _ _ => True.intro)⟩⟩
    · exact q1.elim⟩
/-- ranges -/
def rangeD (lo : Int) (n : Nat) : List D := (List.range n).map fun k : Nat => PyData.int (lo + k)
def inR (i : Int) : Bool := Nat.ble i.natAbs 4611686018427387903
theorem inR_iff {i : Int} (h : inR i = true) : -(2 ^ 62) ≤ i ∧ i < 2 ^ 62 := by
  have := Nat.le_of_ble_eq_true h
  omega
def iRange1 (a : SA) : SI := fun cf env S => (a cf env S).bind fun ws S1 => match ws with
  | [.d (.int j)] => if inR j then .ok (rangeD 0 j.toNat) S1 else .stuck
  | _ => .stuck
def iRange2 (a : SA) : SI := fun cf env S => (a cf env S).bind fun ws S1 => match ws with
  | [.d (.int i), .d (.int j)] => if inR i && inR j then .ok (rangeD i (j - i).toNat) S1 else .stuck
  | _ => .stuck
theorem rangeD_len (lo : Int) (n : Nat) : (rangeD lo n).length = n := by simp [rangeD]
theorem rangeD_get {lo : Int} {n i : Nat} {d : D} (h : (rangeD lo n)[i]? = some d) : i < n ∧ d = .int (lo + i) := by
  unfold rangeD at h
  rw [List.getElem?_map] at h
  cases e : (List.range n)[i]? with
  | none => rw [e] at h; cases h
  | some k =>
    rw [e] at h
    obtain ⟨h1, h2⟩ := List.getElem?_eq_some_iff.mp e
    rw [List.length_range] at h1
    rw [List.getElem_range] at h2
    subst h2
    exact ⟨h1, (Option.some.inj h).symm⟩
theorem iter_range {lo : Int} {n : Nat} {N : Addr → Prop} : IterOf K (Itr lo n) (rangeD lo n) N H := fun N2 H2 k tr i => by
  refine ⟨fun e => by rw [rangeD_len] at e; exact Nat.le_of_eq e.symm, fun d hd => ?_⟩
  obtain ⟨h1, rfl⟩ := rangeD_get hd
  refine ⟨h1, fun v H3 y => ?_⟩
  obtain ⟨e3, rfl⟩ := y
  subst e3
  exact ⟨Same.refl _, .int _⟩
theorem mi_range1 {a : Expr} {q : Pos} (hg : Gl X "range") (hm : X.mg "range" = none) (h : MA X cf EX [a] ha) (hs : starEach [a] X.env = [(false, eval a X.env)] := by rfl) : MI X cf EX tg (.Call (.Name "range" q) [a] [] pos) (iRange1 ha) :=
  PI.weak (pi_range1 hg hm h hs) fun σ H R ⟨env, S, μ, F, s, q⟩ => ⟨env, S, μ, F, s, (Post.bind q).mono fun w S1 H1 μ1 s1 x1 q1 v rv => by
    split at q1
    · obtain ⟨v1, rfl, r1⟩ := rws1 rv
      rw [rw_int r1]
      split at q1
      · rename_i hr
        have hr := inR_iff hr
        exact ⟨_, rfl, hr.1, hr.2, q1 H1 μ1 s1 (Ext.refl _ _ _ _) _ iter_range⟩
      · exact q1.elim
    · exact q1.elim⟩
theorem mi_range2 {a b : Expr} {q : Pos} (hg : Gl X "range") (hm : X.mg "range" = none) (h : MA X cf EX [a, b] ha) (hs : starEach [a, b] X.env = [(false, eval a X.env), (false, eval b X.env)] := by rfl) (hs2 : starEach [b] X.env = [(false, eval b X.env)] := by rfl) :
    MI X cf EX tg (.Call (.Name "range" q) [a, b] [] pos) (iRange2 ha) :=
  PI.weak (pi_range2 hg hm h hs hs2) fun σ H R ⟨env, S, μ, F, s, q⟩ => ⟨env, S, μ, F, s, (Post.bind q).mono fun w S1 H1 μ1 s1 x1 q1 v rv => by
    split at q1
    · obtain ⟨v1, v2, rfl, r1, r2⟩ := rws2 rv
      rw [rw_int r1, rw_int r2]
      split at q1
      · rename_i hr
        rw [Bool.and_eq_true] at hr
        have h1 := inR_iff hr.1
        have h2 := inR_iff hr.2
        exact ⟨_, _, rfl, ⟨h1.1, h1.2, h2.1, h2.2⟩, q1 H1 μ1 s1 (Ext.refl _ _ _ _) _ iter_range⟩
      · exact q1.elim
    · exact q1.elim⟩

theorem Sim.trk (s : Sim K mg F σ H env S μ) : ∀ a, NN F μ σ env a → ∃ u, H a = some u := fun _ n => s.tracked n
theorem ms_for {t : Tg} {it : SI} (hp : PassesOwn (model X.prog X.w) X.A X.env X.xe) (hc : X.calm = true) (hi : MI X cf EX tg e it) (hg : MG X tg t) (hb : MSs X cf EX body f) (hs : ∀ x, foldedSetIterable e X.env x = pure x := by intro _; rfl) :
    MS X cf EX (.For tg e body [] pos) (sFor t it f) := by
  refine PS.weak (ps_for hp hc hi hg hb hs) fun D σ H ⟨env, S, μ, F, s, q⟩ => ⟨env, S, μ, F, s, (PostS.expr q).mono fun ds S1 H1 μ1 s1 x1 q1 J hJ => ?_⟩
  refine ⟨fun i m σ' H' => i + m = ds.length ∧ ∃ env' S' μ', Sim X.K X.mg F σ' H' env' S' μ' ∧ ExS σ env H1 μ1 σ' env' H' μ' ∧ PostS X.K X.mg EX F σ' env' H' μ' (forL t (f cf) (ds.drop i) env' S') D, ⟨ds.length, by omega, env, S1, μ1, s1, ExS.refl _ _ _ _, by simpa using q1⟩, ?_⟩
  rintro i m σ' H' ⟨hm, env', S', μ', s', x', q'⟩
  obtain ⟨hstop, hgo⟩ := hJ _ H' (x'.nn F) s'.trk i
  by_cases hi : i = ds.length
  · refine .inl ⟨hstop hi, ?_⟩
    rw [hi, List.drop_length] at q'
    exact q' σ' H' μ' s' (ExS.refl _ _ _ _)
  · have hlt : i < ds.length := by omega
    have e : ds[i]? = some ds[i] := by simp [hlt]
    obtain ⟨go, y⟩ := hgo _ e
    refine .inr ⟨go, fun σ2 H2 => (i + 1) + (m - 1) = ds.length ∧ ∃ env' S' μ', Sim X.K X.mg F σ2 H2 env' S' μ' ∧ ExS σ env H1 μ1 σ2 env' H2 μ' ∧ PostS X.K X.mg EX F σ2 env' H2 μ' (forL t (f cf) (ds.drop (i + 1)) env' S') D, fun σ2 H2 h => ⟨m - 1, by omega, h⟩, fun v H3 yv => ?_⟩
    obtain ⟨sm, rv⟩ := y v H3 yv
    have s3 := s'.same sm
    have x3 : ExS σ' env' H' μ' σ' env' H3 μ' := (Ext.same sm).s
    rw [List.drop_eq_getElem_cons hlt] at q'
    unfold forL at q'
    split at q'
    · exact q'.elim
    · rename_i env1 e1
      refine ⟨F, env', S', μ', _, env1, s3, rv, e1, fun σ4 s4 x4 _ => ⟨env1, S', μ', F, s4, ?_⟩⟩
      have xx := x3.trans x4
      have q2 := PostS.ext q' xx
      cases r : f cf env1 S' with
      | next e2 S2 =>
        simp only [r] at q2
        exact fun σ5 H5 μ5 s5 x5 => ⟨by omega, e2, S2, μ5, s5, x'.trans (xx.trans x5), PostS.ext q2 x5⟩
      | cont e2 S2 =>
        simp only [r] at q2
        exact fun σ5 H5 μ5 s5 x5 => ⟨by omega, e2, S2, μ5, s5, x'.trans (xx.trans x5), PostS.ext q2 x5⟩
      | brk e2 S2 =>
        simp only [r] at q2
        exact fun σ5 H5 μ5 s5 x5 => q2 σ5 H5 μ5 s5 x5
      | ret w S2 =>
        simp only [r] at q2
        exact q2
      | exc cc e2 S2 =>
        simp only [r] at q2
        exact q2
      | stuck =>
        simp only [r] at q2
        exact q2
theorem ms_while {n : Nat} (hp : PassesOwn (model X.prog X.w) X.A X.env X.xe) (hc : MT X cf EX c gc) (hb : MSs X cf EX body f) : MS X cf EX (.While c body [] pos) (sWhile n gc f) := by
  refine PS.weak (ps_while hp hc hb) fun D σ H ⟨env, S, μ, F, s, q⟩ => ?_
  refine ⟨fun m σ' H' => ∃ env' S' μ', Sim X.K X.mg F σ' H' env' S' μ' ∧ PostS X.K X.mg EX F σ' env' H' μ' (whileL (gc cf) (f cf) m env' S') D, ⟨n, env, S, μ, s, q⟩, ?_⟩
  rintro m σ' H' ⟨env', S', μ', s', q'⟩
  cases m with
  | zero => exact q'.elim
  | succ m =>
    unfold whileL at q'
    refine ⟨env', S', μ', F, s', (PostS.expr q').mono fun k S1 H1 μ1 s1 x1 q1 => ?_⟩
    cases k with
    | false =>
      simp only [Bool.false_eq_true, if_false] at q1 ⊢
      exact q1 σ' H1 μ1 s1 (ExS.refl _ _ _ _)
    | true =>
      simp only [if_true] at q1 ⊢
      refine ⟨fun σ2 H2 => ∃ env' S' μ', Sim X.K X.mg F σ2 H2 env' S' μ' ∧ PostS X.K X.mg EX F σ2 env' H2 μ' (whileL (gc cf) (f cf) m env' S') D, fun σ2 H2 h => ⟨m, Nat.lt_succ_self _, h⟩, env', S1, μ1, F, s1, ?_⟩
      cases r : f cf env' S1 with
      | next e2 S2 =>
        simp only [r] at q1
        exact fun σ5 H5 μ5 s5 x5 => ⟨e2, S2, μ5, s5, PostS.ext q1 x5⟩
      | cont e2 S2 =>
        simp only [r] at q1
        exact fun σ5 H5 μ5 s5 x5 => ⟨e2, S2, μ5, s5, PostS.ext q1 x5⟩
      | brk e2 S2 =>
        simp only [r] at q1
        exact fun σ5 H5 μ5 s5 x5 => q1 σ5 H5 μ5 s5 x5
      | ret w S2 =>
        simp only [r] at q1
        exact q1
      | exc cc e2 S2 =>
        simp only [r] at q1
        exact q1
      | stuck =>
        simp only [r] at q1
        exact q1

def wipeE (env : EnvQ) : List Nat → EnvQ
  | [] => env
  | v :: vs => (wipeE env vs).set v none
def notOwn (env : EnvQ) (i : Nat) : Bool := match env[i]? with
  | some (some w) => w.plain
  | _ => true
def R.calm {α : Type} : R α → R α
  | .exc _ _ => .stuck
  | r => r
def compL (t : Tg) (c : EnvQ → Sto → R Bool) (f : EnvQ → Sto → R W) (env : EnvQ) : List D → Sto → R (List D)
  | [], S => .ok [] S
  | d :: ds, S => match t.set d env with
    | none => .stuck
    | some env1 => (c env1 S).calm.bind fun b S1 => if b = true then (f env1 S1).calm.bind fun w S2 => (match w with
        | .d x => (compL t c f env ds S2).bind fun xs S3 => .ok (x :: xs) S3
        | _ => .stuck) else compL t c f env ds S1
def fComp (vs : List Nat) (t : Tg) (it : SI) (c : ST) (f : SE) : SE := fun cf env S => if vs.all (notOwn env) then (it cf env S).bind fun ds S1 => (compL t (c cf) (f cf) (wipeE env vs) ds S1).bind fun xs S2 => if xs.length ≤ LIM then .ok (.d (.list xs)) S2 else .stuck else .stuck
theorem wipeE_get {env : EnvQ} {i : Nat} {w : W} : ∀ {vs : List Nat}, (wipeE env vs)[i]? = some (some w) → i ∉ vs ∧ env[i]? = some (some w)
  | [], h => ⟨by simp, h⟩
  | v :: vs, h => by
    rcases set_get (show ((wipeE env vs).set v none)[i]? = some (some w) from h) with ⟨_, e⟩ | ⟨n, e⟩
    · cases e
    · obtain ⟨h1, h2⟩ := wipeE_get e
      exact ⟨by simp only [List.mem_cons, not_or]; exact ⟨n, h1⟩, h2⟩
theorem wipeE_out {env : EnvQ} {i : Nat} : ∀ {vs : List Nat}, i ∉ vs → (wipeE env vs)[i]? = env[i]?
  | [], _ => rfl
  | v :: vs, h => by
    simp only [List.mem_cons, not_or] at h
    show ((wipeE env vs).set v none)[i]? = _
    rw [List.getElem?_set_ne (Ne.symm h.1)]
    exact wipeE_out h.2
theorem wipeE_len (env : EnvQ) : ∀ vs : List Nat, (wipeE env vs).length = env.length
  | [] => rfl
  | v :: vs => by
    show ((wipeE env vs).set v none).length = _
    rw [List.length_set]
    exact wipeE_len env vs
theorem wipe_out' {σ : L2.St} {i : Nat} {vs : List Nat} (h : i ∉ vs) : (wipe σ vs)[i]? = σ[i]? := wipe_out h
theorem wipe_own {vs : List Nat} (no : ∀ i ∈ vs, notOwn env i = true) (i : Nat) (a : Addr) : OwnAt (wipe σ vs) (wipeE env vs) i a ↔ OwnAt σ env i a := by
  constructor
  · rintro ⟨h1, w, h2, h3⟩
    obtain ⟨n, e⟩ := wipeE_get h2
    rw [wipe_out' n] at h1
    exact ⟨h1, w, e, h3⟩
  · rintro ⟨h1, w, h2, h3⟩
    have n : i ∉ vs := fun m => by
      have z := no i m
      unfold notOwn at z
      rw [h2] at z
      simp only at z
      rw [fine_own h3] at z
      cases z
    exact ⟨by rw [wipe_out' n]; exact h1, w, by rw [wipeE_out n]; exact h2, h3⟩
theorem wipe_mm {vs : List Nat} (no : ∀ i ∈ vs, notOwn env i = true) (μ : List Addr) : MM μ (wipe σ vs) (wipeE env vs) = MM μ σ env := by
  funext a
  apply propext
  exact ⟨fun h => h.elim .inl fun ⟨i, h⟩ => .inr ⟨i, (wipe_own no i a).mp h⟩, fun h => h.elim .inl fun ⟨i, h⟩ => .inr ⟨i, (wipe_own no i a).mpr h⟩⟩
theorem wipe_nn {vs : List Nat} (no : ∀ i ∈ vs, notOwn env i = true) (F : Addr → Prop) (μ : List Addr) : NN F μ (wipe σ vs) (wipeE env vs) = NN F μ σ env := by
  unfold NN
  rw [wipe_mm no]
/-- into the block: the new list at p is nobody's -/
theorem Sim.block (s : Sim K mg F σ H env S μ) {vs : List Nat} (no : ∀ i ∈ vs, notOwn env i = true) {p : Addr} {o : HO} (n : H p = none) : Sim K mg (fun a => a = p ∨ F a) (wipe σ vs) (upd H p o) (wipeE env vs) S μ := by
  have kp : Keep (NN F μ σ env) H (NN (fun a => a = p ∨ F a) μ σ env) (upd H p o) := fun a u na e => by
    have ne : a ≠ p := ne_of_none e n
    exact ⟨by rw [upd_ne ne]; exact e, fun h => h.elim (fun h => na (.inl h)) fun h => h.elim ne fun h => na (.inr h)⟩
  have nn : NN (fun a => a = p ∨ F a) μ (wipe σ vs) (wipeE env vs) = NN (fun a => a = p ∨ F a) μ σ env := wipe_nn no _ _
  refine ⟨by rw [wipe_length, wipeE_len]; exact s.len, fun i w e => ?_, fun i w e => ?_, fun i j a h1 h2 => s.inj i j a ((wipe_own no i a).mp h1) ((wipe_own no j a).mp h2), fun i a h => s.apart i a ((wipe_own no i a).mp h), ⟨s.st.len, s.st.nd, fun k ob e => ?_⟩, fun a f => ?_, fun a f h => ?_⟩
  · obtain ⟨ni, e⟩ := wipeE_get e
    obtain ⟨v, hv, r⟩ := s.slot i w e
    refine ⟨v, by rw [wipe_out' ni]; exact hv, ?_⟩
    rw [nn]
    by_cases po : w.isOwn = true
    · obtain ⟨a, vs', xs', rfl, rfl, hb, tb⟩ := own_or_plain r po
      exact .own (by rw [upd_ne (ne_of_none hb n)]; exact hb) (tb.keep kp)
    · have pl : w.plain = true := by
        have fi := s.fin i w e
        unfold W.fine at fi
        simpa [po] using fi
      exact RW.keep kp (List.prefix_refl _) r pl
  · exact s.fin i w (wipeE_get e).2
  · obtain ⟨b, hb, r⟩ := s.st.obj k ob e
    refine ⟨b, hb, ?_⟩
    rw [nn]
    cases r with
    | lst h t' => exact .lst (by rw [upd_ne (ne_of_none h n)]; exact h) (t'.keep kp)
    | ins g h m t' pl => exact .ins g (by rw [upd_ne (ne_of_none h n)]; exact h) m (RWs.keep kp (List.prefix_refl _) t' pl) pl
  · rcases f with rfl | f
    · exact ⟨_, upd_same⟩
    · obtain ⟨u, hu⟩ := s.ftr a f
      exact ⟨u, by rw [upd_ne (ne_of_none hu n)]; exact hu⟩
  · rw [wipe_mm no] at h
    rcases f with rfl | f
    · exact s.fresh n (.inl h)
    · exact s.fdis a f h
/-- out of the block -/
theorem Sim.unblock (s : Sim K mg F σ H env S μ) {vs : List Nat} (no : ∀ i ∈ vs, notOwn env i = true) {p : Addr} (s' : Sim K mg (fun a => a = p ∨ F a) (wipe σ vs) H' (wipeE env vs) S' μ') (ex : Ext σ env H μ H' μ') : Sim K mg F σ H' env S' μ' := by
  have nn : NN (fun a => a = p ∨ F a) μ' (wipe σ vs) (wipeE env vs) = NN (fun a => a = p ∨ F a) μ' σ env := wipe_nn no _ _
  have sub : ∀ a, NN F μ' σ env a → NN (fun a => a = p ∨ F a) μ' (wipe σ vs) (wipeE env vs) a := fun a h => by
    rw [nn]
    exact h.elim .inl fun h => .inr (.inr h)
  refine ⟨s.len, fun i w e => ?_, s.fin, s.inj, fun i a h => s'.apart i a ((wipe_own no i a).mpr h), s'.st.sub sub, fun a f => s'.ftr a (.inr f), fun a f h => s'.fdis a (.inr f) (by rw [wipe_mm no]; exact h)⟩
  by_cases m : i ∈ vs
  · obtain ⟨v, hv, r⟩ := s.slot i w e
    have z := no i m
    unfold notOwn at z
    rw [e] at z
    exact ⟨v, hv, RW.keep (ex.nn F) ex.pre r z⟩
  · obtain ⟨v, hv, r⟩ := s'.slot i w (by rw [wipeE_out m]; exact e)
    rw [wipe_out' m] at hv
    exact ⟨v, hv, RW.sub sub r⟩
/-- what is the callers' may turn -/
theorem Sim.updF (s : Sim K mg F σ H env S μ) {p : Addr} {o : HO} (f : F p) : Sim K mg F σ (upd H p o) env S μ ∧ Keep (NN F μ σ env) H (NN F μ σ env) (upd H p o) := by
  have np : ¬ MM μ σ env p := s.fdis p f
  have kp : Keep (NN F μ σ env) H (NN F μ σ env) (upd H p o) := fun a u na e => by
    have ne : a ≠ p := fun z => na (z ▸ .inr f)
    exact ⟨by rw [upd_ne ne]; exact e, na⟩
  refine ⟨⟨s.len, fun i w e => ?_, s.fin, s.inj, s.apart, ⟨s.st.len, s.st.nd, fun k ob e => ?_⟩, fun a h => ?_, s.fdis⟩, kp⟩
  · obtain ⟨v, hv, r⟩ := s.slot i w e
    refine ⟨v, hv, ?_⟩
    by_cases po : w.isOwn = true
    · obtain ⟨a, vs', xs', rfl, rfl, hb, tb⟩ := own_or_plain r po
      have ne : a ≠ p := fun z => np (z ▸ .inr ⟨i, hv, _, e, rfl⟩)
      exact .own (by rw [upd_ne ne]; exact hb) (tb.keep kp)
    · have pl : w.plain = true := by
        have fi := s.fin i w e
        unfold W.fine at fi
        simpa [po] using fi
      exact RW.keep kp (List.prefix_refl _) r pl
  · obtain ⟨b, hb, r⟩ := s.st.obj k ob e
    have ne : b ≠ p := fun z => np (z ▸ .inl (List.mem_of_getElem? hb))
    refine ⟨b, hb, ?_⟩
    cases r with
    | lst h t' => exact .lst (by rw [upd_ne ne]; exact h) (t'.keep kp)
    | ins g h m t' pl => exact .ins g (by rw [upd_ne ne]; exact h) m (RWs.keep kp (List.prefix_refl _) t' pl) pl
  · by_cases z : a = p
    · subst z
      exact ⟨_, upd_same⟩
    · obtain ⟨u, hu⟩ := s.ftr a h
      exact ⟨u, by rw [upd_ne z]; exact hu⟩
theorem Post.calm {α : Type} {r : R α} {P : α → Sto → Hp → List Addr → Prop} {EX EX' : WX} (h : Post K mg EX F σ env H μ r.calm P) : Post K mg EX' F σ env H μ r P := by
  cases r with
  | ok a S' => exact h
  | exc c S' => exact h.elim
  | stuck => exact h
theorem setAll_wipe : ∀ {is : List Nat} {ds : List D} {env env' : EnvQ}, setAll is ds env = some env' → env'.length = env.length ∧ ∀ j, j ∉ is → env'[j]? = env[j]?
  | [], [], env, env', e => by
    simp only [setAll, Option.some.injEq] at e
    subst e
    exact ⟨rfl, fun _ _ => rfl⟩
  | [], _ :: _, _, _, e => by simp [setAll] at e
  | _ :: _, [], _, _, e => by simp [setAll] at e
  | i :: is, d :: ds, env, env', e => by
    simp only [setAll] at e
    obtain ⟨h1, h2⟩ := setAll_wipe e
    refine ⟨by simpa using h1, fun j hj => ?_⟩
    simp only [List.mem_cons, not_or] at hj
    rw [h2 j hj.2, List.getElem?_set_ne (Ne.symm hj.1)]
theorem wipe_get (σ : L2.St) (j : Nat) : ∀ vs : List Nat, (wipe σ vs)[j]? = if j ∈ vs ∧ j < σ.length then some none else σ[j]?
  | [] => by simp [wipe]
  | v :: vs => by
    have ih := wipe_get σ j vs
    have hl : (wipe σ vs).length = σ.length := wipe_length σ vs
    show ((wipe σ vs).set v none)[j]? = _
    by_cases e : j = v
    · subst e
      by_cases h : j < σ.length
      · rw [List.getElem?_set_self (by rw [hl]; exact h), if_pos ⟨by simp, h⟩]
      · rw [List.getElem?_eq_none (by simpa [hl] using h), if_neg (fun z => h z.2), List.getElem?_eq_none (by simpa using h)]
    · rw [List.getElem?_set_ne (Ne.symm e), ih]
      simp [e]
theorem wipe_only {σ σ2 : L2.St} {is vs : List Nat} (hs : ∀ i ∈ is, i ∈ vs) (o : Only1 is (wipe σ vs) σ2) : wipe σ2 vs = wipe σ vs := by
  apply List.ext_getElem?
  intro j
  have hl : σ2.length = σ.length := by rw [o.1, wipe_length]
  rw [wipe_get σ2, wipe_get σ, hl]
  by_cases h : j ∈ vs ∧ j < σ.length
  · rw [if_pos h, if_pos h]
  · rw [if_neg h, if_neg h]
    by_cases m : j ∈ vs
    · have hj : ¬ j < σ.length := fun z => h ⟨m, z⟩
      rw [List.getElem?_eq_none (by omega), List.getElem?_eq_none (by omega)]
    · rw [o.2 j (fun z => m (hs j z)), wipe_get σ, if_neg (fun z => m z.1)]
/-- tests of a comprehension: none, one -/
def MTs (X : Cx) (cf : CF) (EX : WX) (es : List Expr) (f : ST) : Prop := PTs X es (tT X.K X.mg cf EX f)
def cYes : ST := fun _ _ S => .ok true S
theorem PTs.weak {X : Cx} {es : List Expr} {t t' : TT} (h : PTs X es t) (w : ∀ σ H Q, t' σ H Q → t σ H Q) : PTs X es t' := ⟨fun pins s σ H Q I q => h.run pins s σ H Q I (w σ H Q q)⟩
theorem mts_nil : MTs X cf EX [] cYes := PTs.weak pts_nil fun σ H Q ⟨env, S, μ, F, s, q⟩ => q H μ s (Ext.refl _ _ _ _)
theorem mts_one (h : MT X cf EX c gc) : MTs X cf EX [c] gc := pts_one h
abbrev EX0 : WX := fun _ _ _ _ => False
theorem compL_calm (t : Tg) (c : EnvQ → Sto → R Bool) (f : EnvQ → Sto → R W) (env : EnvQ) : ∀ (ds : List D) (S : Sto), (∃ xs S', compL t c f env ds S = .ok xs S') ∨ compL t c f env ds S = .stuck
  | [], S => .inl ⟨[], S, rfl⟩
  | d :: ds, S => by
    unfold compL
    split
    · exact .inr rfl
    · rename_i env1 e1
      cases c env1 S with
      | exc _ _ => exact .inr rfl
      | stuck => exact .inr rfl
      | ok b S1 =>
        cases b with
        | false =>
          simp only [R.calm, R.bind_ok, Bool.false_eq_true, if_false]
          exact compL_calm t c f env ds S1
        | true =>
          simp only [R.calm, R.bind_ok, if_true]
          cases f env1 S1 with
          | exc _ _ => exact .inr rfl
          | stuck => exact .inr rfl
          | ok w S2 =>
            simp only [R.bind_ok]
            split
            · rcases compL_calm t c f env ds S2 with ⟨xs, S', e⟩ | e
              · rw [e]
                exact .inl ⟨_, _, rfl⟩
              · rw [e]
                exact .inr rfl
            · exact .inr rfl
/-- the target's names are forgotten -/
theorem set_eq {t : Tg} {d : D} {env0 env1 : EnvQ} (e : t.set d env0 = some env1) : env1.length = env0.length ∧ (∀ j, j ∉ t.slots → env1[j]? = env0[j]?) ∧ ∀ j w, j ∈ t.slots → env1[j]? = some (some w) → w.isOwn = false := by
  have aux : ∀ (is : List Nat) (ds : List D) (env env' : EnvQ), setAll is ds env = some env' → ∀ j w, j ∈ is → env'[j]? = some (some w) → w.isOwn = false := by
    intro is
    induction is with
    | nil => intro ds env env' _ j w hj; cases hj
    | cons i is ih =>
      intro ds env env' e j w hj hw
      cases ds with
      | nil => simp [setAll] at e
      | cons d ds =>
        simp only [setAll] at e
        by_cases m : j ∈ is
        · exact ih ds _ env' e j w m hw
        · have z : j = i := by
            rcases List.mem_cons.mp hj with z | z
            · exact z
            · exact absurd z m
          subst z
          rw [(setAll_wipe e).2 j m] at hw
          rcases set_get hw with ⟨_, y⟩ | ⟨n, _⟩
          · cases y
            rfl
          · exact absurd rfl n
  cases t with
  | name i =>
    simp only [Tg.set, Option.some.injEq] at e
    subst e
    refine ⟨by simp, fun j hj => by rw [List.getElem?_set_ne (fun z => hj (by simp [Tg.slots, z]))], fun j w hj hw => ?_⟩
    rcases set_get hw with ⟨_, y⟩ | ⟨n, _⟩
    · cases y
      rfl
    · exact absurd (by simpa [Tg.slots] using hj) n
  | names is =>
    cases d with
    | tuple ds =>
      have e : setAll is ds env0 = some env1 := by simpa [Tg.set] using e
      exact ⟨(setAll_wipe e).1, fun j hj => (setAll_wipe e).2 j hj, aux is ds env0 env1 e⟩
    | _ => simp [Tg.set] at e
theorem Sim.turn {t : Tg} {d : D} {vs : List Nat} {env1 : EnvQ} {σ4 : L2.St} (hsl : ∀ i ∈ t.slots, i ∈ vs) (e : t.set d (wipeE env vs) = some env1) (hlen : σ.length = env.length) (o : Only1 t.slots (wipe σ vs) σ4) :
    (∀ μ, MM μ σ4 env1 = MM μ (wipe σ vs) (wipeE env vs)) ∧ ∀ {F : Addr → Prop} {H : Hp} {S : Sto} {μ : List Addr}, Sim K mg F σ4 H env1 S μ → Sim K mg F (wipe σ vs) H (wipeE env vs) S μ := by
  obtain ⟨h1, h2, h3⟩ := set_eq e
  have iff : ∀ i a, OwnAt σ4 env1 i a ↔ OwnAt (wipe σ vs) (wipeE env vs) i a := fun i a => by
    by_cases m : i ∈ t.slots
    · constructor
      · rintro ⟨_, w, y, z⟩
        rw [h3 i w m y] at z
        cases z
      · rintro ⟨_, w, y, z⟩
        exact absurd (hsl i m) (wipeE_get y).1
    · constructor
      · rintro ⟨y, w, z, q⟩
        exact ⟨by rw [← o.2 i m]; exact y, w, by rw [← h2 i m]; exact z, q⟩
      · rintro ⟨y, w, z, q⟩
        exact ⟨by rw [o.2 i m]; exact y, w, by rw [h2 i m]; exact z, q⟩
  have mm : ∀ μ, MM μ σ4 env1 = MM μ (wipe σ vs) (wipeE env vs) := fun μ => by
    funext a
    apply propext
    exact ⟨fun h => h.elim .inl fun ⟨i, h⟩ => .inr ⟨i, (iff i a).mp h⟩, fun h => h.elim .inl fun ⟨i, h⟩ => .inr ⟨i, (iff i a).mpr h⟩⟩
  refine ⟨mm, fun {F H S μ} s => ?_⟩
  have nn : NN F μ σ4 env1 = NN F μ (wipe σ vs) (wipeE env vs) := by
    unfold NN
    rw [mm]
  refine ⟨by rw [wipe_length, wipeE_len]; exact hlen, fun i w y => ?_, fun i w y => ?_, fun i j a y z => s.inj i j a ((iff i a).mpr y) ((iff j a).mpr z), fun i a y => s.apart i a ((iff i a).mpr y), by rw [← nn]; exact s.st, s.ftr, fun a f y => s.fdis a f (by rw [mm]; exact y)⟩
  · have m : i ∉ t.slots := fun m => (wipeE_get y).1 (hsl i m)
    obtain ⟨v, hv, r⟩ := s.slot i w (by rw [h2 i m]; exact y)
    rw [o.2 i m] at hv
    exact ⟨v, hv, by rw [← nn]; exact r⟩
  · have m : i ∉ t.slots := fun m => (wipeE_get y).1 (hsl i m)
    exact s.fin i w (by rw [h2 i m]; exact y)
/-- the reading of a comprehension -/
theorem comp_read {t : Tg} {it : SI} {cc : ST} {ff : SE} {vs : List Nat} (hsl : ∀ i ∈ t.slots, i ∈ vs)
    (σ : L2.St) (H : Hp) (Q : VK) (q : tE X.K X.mg cf EX (fComp vs t it cc ff) σ H Q) : tLc (tI X.K X.mg cf EX it) (tG X.K X.mg t) (tT X.K X.mg cf EX0 cc) (tE X.K X.mg cf EX0 ff) vs σ H Q := by
  obtain ⟨env, S, μ, F, s, q⟩ := q
  unfold fComp at q
  split at q
  · rename_i no
    have no : ∀ i ∈ vs, notOwn env i = true := fun i hi => List.all_eq_true.mp no i hi
    refine ⟨env, S, μ, F, s, (Post.bind q).mono fun ds S1 H1 μ1 s1 x1 q1 J hJ D nD => ?_⟩
    have fD : ¬ F D := fun h => by
      obtain ⟨u, hu⟩ := s1.ftr D h
      rw [nD] at hu
      cases hu
    refine ⟨fun i m H' => i + m = ds.length ∧ ∃ S' μ' ys zs, Sim X.K X.mg (fun a => a = D ∨ F a) (wipe σ vs) H' (wipeE env vs) S' μ' ∧ Ext σ env H1 μ1 H' μ' ∧ H' D = some (.lst ys) ∧ DnAll X.K H' (NN (fun a => a = D ∨ F a) μ' σ env) ys zs ∧
      Post X.K X.mg EX F σ env H1 μ1 ((compL t (cc cf) (ff cf) (wipeE env vs) (ds.drop i) S').bind fun xs S2 => if (zs ++ xs).length ≤ LIM then .ok (.d (.list (zs ++ xs))) S2 else .stuck) (fun w _ H' μ' => ∀ v, RW X.K X.mg H' (NN F μ' σ env) μ' v w → Q v H'), ⟨ds.length, by omega, S1, μ1, [], [], s1.block no nD, ext_new nD, upd_same, .nil, by simpa using q1⟩, ?_⟩
    rintro i m H' ⟨hm, S', μ', ys, zs, s', x0, hD, tz, q'⟩
    have s0 := s1.unblock no s' x0
    have kN : Keep (NN F μ1 σ env) H1 (NN (fun a => a = D ∨ F a) μ' (wipe σ vs) (wipeE env vs)) H' := fun a o na e => by
      obtain ⟨e', n'⟩ := x0.nn F a o na e
      refine ⟨e', fun h => ?_⟩
      rw [wipe_nn no] at h
      rcases h with h | h | h
      · exact n' (.inl h)
      · exact ne_of_none e nD h
      · exact n' (.inr h)
    obtain ⟨hstop, hgo⟩ := hJ _ H' kN s'.trk i
    have nDN : ∀ {H2 S2 μ2}, Sim X.K X.mg (fun a => a = D ∨ F a) (wipe σ vs) H2 (wipeE env vs) S2 μ2 → ¬ NN F μ2 σ env D := fun s2 h => h.elim (fun h => s2.fdis D (.inl rfl) (by rw [wipe_mm no]; exact h)) fD
    by_cases hi : i = ds.length
    · refine .inl ⟨hstop hi, ?_⟩
      rw [hi, List.drop_length] at q'
      simp only [compL, R.bind_ok, List.append_nil] at q'
      split at q'
      · exact q' H' μ' s0 x0 _ (.d (.lst ⟨nDN s', hD⟩ (tz.keep (Keep.sub fun a h => h.elim .inl fun h => .inr (.inr h)))))
      · exact q'.elim
    · have hlt : i < ds.length := by omega
      have e : ds[i]? = some ds[i] := by simp [hlt]
      obtain ⟨go, y⟩ := hgo _ e
      refine .inr ⟨go, fun H2 => (i + 1) + (m - 1) = ds.length ∧ ∃ S' μ' ys zs, Sim X.K X.mg (fun a => a = D ∨ F a) (wipe σ vs) H2 (wipeE env vs) S' μ' ∧ Ext σ env H1 μ1 H2 μ' ∧ H2 D = some (.lst ys) ∧ DnAll X.K H2 (NN (fun a => a = D ∨ F a) μ' σ env) ys zs ∧
        Post X.K X.mg EX F σ env H1 μ1 ((compL t (cc cf) (ff cf) (wipeE env vs) (ds.drop (i + 1)) S').bind fun xs S2 => if (zs ++ xs).length ≤ LIM then .ok (.d (.list (zs ++ xs))) S2 else .stuck) (fun w _ H' μ' => ∀ v, RW X.K X.mg H' (NN F μ' σ env) μ' v w → Q v H'), fun H2 h => ⟨m - 1, by omega, h⟩, fun v H3 yv => ?_⟩
      obtain ⟨sm, rv⟩ := y v H3 yv
      have s3 := s'.same sm
      have x3 : Ext σ env H1 μ1 H3 μ' := x0.trans (Ext.same sm)
      have hD3 : H3 D = some (.lst ys) := sm _ _ hD
      have tz3 : DnAll X.K H3 (NN (fun a => a = D ∨ F a) μ' σ env) ys zs := tz.keep fun a o n e => ⟨sm a o e, n⟩
      rw [List.drop_eq_getElem_cons hlt] at q'
      unfold compL at q'
      split at q'
      · exact q'.elim
      · rename_i env1 e1
        refine ⟨_, _, S', μ', _, env1, s3, rv, e1, fun σ4 s4 x4 o4 => ⟨wipe_only hsl o4, env1, S', μ', _, s4, ?_⟩⟩
        obtain ⟨mm, back⟩ := Sim.turn (K := X.K) (mg := X.mg) hsl e1 s.len o4
        -- what a step within the turn keeps
        have step : ∀ {Ha Hb : Hp} {μa μb : List Addr}, Ext σ4 env1 Ha μa Hb μb → Ext σ env Ha μa Hb μb := fun x => by
          have k := x.keep
          rw [mm, mm, wipe_mm no, wipe_mm no] at k
          exact ⟨k, x.pre⟩
        have atD : ∀ {Ha Hb : Hp} {μa μb : List Addr} {Sa : Sto} {u : HO}, Sim X.K X.mg (fun a => a = D ∨ F a) (wipe σ vs) Ha (wipeE env vs) Sa μa → Ext σ4 env1 Ha μa Hb μb → Ha D = some u → Hb D = some u := fun sa x h => by
          have k := x.keep
          rw [mm, mm] at k
          exact (k D _ (sa.fdis D (.inl rfl)) h).1
        cases r : cc cf env1 S' with
        | stuck =>
          rw [r] at q'
          exact q'.elim
        | exc c0 S5 =>
          rw [r] at q'
          exact q'.elim
        | ok b S5 =>
          rw [r] at q'
          intro H5 μ5 s5 x5
          have w5 := back s5
          have xx5 := x3.trans (step x5)
          have hD5 := atD s3 x5 hD3
          have tz5 := tz3.keep ((step x5).nn _)
          cases b with
          | false =>
            simp only [R.calm, R.bind_ok, Bool.false_eq_true, if_false] at q' ⊢
            exact ⟨by omega, S5, μ5, ys, zs, w5, xx5, hD5, tz5, q'⟩
          | true =>
            simp only [R.calm, R.bind_ok, if_true] at q' ⊢
            refine ⟨env1, S5, μ5, _, s5, ?_⟩
            cases r2 : ff cf env1 S5 with
            | stuck =>
              rw [r2] at q'
              exact q'.elim
            | exc c0 S6 =>
              rw [r2] at q'
              exact q'.elim
            | ok w S6 =>
              rw [r2] at q'
              intro H6 μ6 s6 x6 v2 rv2
              have w6 := back s6
              have xx6 := xx5.trans (step x6)
              have hD6 := atD w5 x6 hD5
              have tz6 := tz5.keep ((step x6).nn _)
              simp only [R.bind_ok] at q'
              split at q'
              · rename_i z
                have rz : Dn X.K H6 (NN (fun a => a = D ∨ F a) μ6 σ env) v2 z := by
                  cases rv2 with
                  | d h =>
                    refine h.keep (Keep.sub fun a ha => ?_)
                    have : NN (fun a => a = D ∨ F a) μ6 σ4 env1 = NN (fun a => a = D ∨ F a) μ6 σ env := by
                      unfold NN
                      rw [mm, wipe_mm no]
                    rw [this]
                    exact ha
                have hz : zs.length < LIM ∧ Post X.K X.mg EX F σ env H1 μ1 ((compL t (cc cf) (ff cf) (wipeE env vs) (ds.drop (i + 1)) S6).bind fun xs S2 => if ((zs ++ [z]) ++ xs).length ≤ LIM then .ok (.d (.list ((zs ++ [z]) ++ xs))) S2 else .stuck) (fun w _ H' μ' => ∀ v, RW X.K X.mg H' (NN F μ' σ env) μ' v w → Q v H') := by
                  rcases compL_calm t (cc cf) (ff cf) (wipeE env vs) (ds.drop (i + 1)) S6 with ⟨xs, S7, e7⟩ | e7
                  · rw [e7] at q' ⊢
                    simp only [R.bind_ok, List.append_assoc, List.singleton_append] at q' ⊢
                    split at q'
                    · rename_i hz
                      refine ⟨?_, ?_⟩
                      · rw [List.length_append, List.length_cons] at hz
                        omega
                      · rw [if_pos hz]
                        exact q'
                    · exact q'.elim
                  · rw [e7] at q'
                    exact q'.elim
                refine ⟨ys, hD6, by rw [← lim_line, tz6.length]; exact hz.1, by omega, S6, μ6, ys ++ [v2], zs ++ [z], (w6.updF (.inl rfl)).1, ⟨fun a o na e => ?_, xx6.pre⟩, upd_same, ?_, hz.2⟩
                · obtain ⟨e', n'⟩ := xx6.keep a o na e
                  exact ⟨by rw [upd_ne (ne_of_none e nD)]; exact e', n'⟩
                · refine (tz6.append (.cons rz .nil)).keep fun a o na e => ⟨?_, na⟩
                  rw [upd_ne (fun z => na (.inr (.inl z)))]
                  exact e
              · exact q'.elim
  · exact q.elim
theorem me_comp {t : Tg} {it : SI} {gcc : ST} {ff : SE} {elt iter : Expr} {ifs : List Expr} {scope : Scope} {own : List (Str × Nat)} (hc : X.calm = true) (hN : X.N.Nodup) (hi : MI X cf EX tg iter it) (ok : BlkOk X.N X.env.scope scope own)
    (hsl : ∀ i ∈ t.slots, i ∈ own.map (·.2))
    (hg : ∀ (s : Shared) (H : Hp) (C : Addr) (cl : List (Str × Addr)) (fp : List Addr), MG (X.blk s H scope (compEnvC scope cl C X.env) fp) tg t) (ht : ∀ (s : Shared) (H : Hp) (C : Addr) (cl : List (Str × Addr)) (fp : List Addr), MTs (X.blk s H scope (compEnvC scope cl C X.env) fp) cf EX0 ifs gcc)
    (he : ∀ (s : Shared) (H : Hp) (C : Addr) (cl : List (Str × Addr)) (fp : List Addr), ME (X.blk s H scope (compEnvC scope cl C X.env) fp) cf EX0 elt ff) (hs : ∀ x, foldedSetIterable iter X.env x = pure x := by intro _; rfl) :
    ME X cf EX (.ListComp elt [⟨tg, iter, ifs, 0⟩] scope pos) (fComp (own.map (·.2)) t it gcc ff) :=
  PE.weak (pe_lc (g := tG X.K X.mg t) (tt := tT X.K X.mg cf EX0 gcc) (te := tE X.K X.mg cf EX0 ff) hc hN hi ok hg ht he hs) (comp_read hsl)
theorem ms_setComp {t : Tg} {it : SI} {gcc : ST} {ff : SE} {elt iter : Expr} {ifs : List Expr} {scope : Scope} {own : List (Str × Nat)} {i : Nat} {y : Str} {py spos : Pos} (hc : X.calm = true) (hN : X.N.Nodup) (hy : X.N[i]? = some y) (hyl : X.env.scope.names.lookup y = some .local)
    (hsw : swapsWith (.ListComp elt [⟨tg, iter, ifs, 0⟩] scope pos) (some (.Name y py)) spos.line X.env = pure true) (hi : MI X cf EX tg iter it) (ok : BlkOk X.N X.env.scope scope own)
    (hsl : ∀ i ∈ t.slots, i ∈ own.map (·.2))
    (hg : ∀ (s : Shared) (H : Hp) (C : Addr) (cl : List (Str × Addr)) (fp : List Addr), MG (X.blk s H scope (compEnvC scope cl C X.env) fp) tg t) (ht : ∀ (s : Shared) (H : Hp) (C : Addr) (cl : List (Str × Addr)) (fp : List Addr), MTs (X.blk s H scope (compEnvC scope cl C X.env) fp) cf EX0 ifs gcc)
    (he : ∀ (s : Shared) (H : Hp) (C : Addr) (cl : List (Str × Addr)) (fp : List Addr), ME (X.blk s H scope (compEnvC scope cl C X.env) fp) cf EX0 elt ff) (hs : ∀ x, foldedSetIterable iter X.env x = pure x := by intro _; rfl) :
    MS X cf EX (.Assign [.Name y py] (.ListComp elt [⟨tg, iter, ifs, 0⟩] scope pos) spos) (sSet i (fComp (own.map (·.2)) t it gcc ff)) :=
  PS.weak (ps_setLc (g := tG X.K X.mg t) (tt := tT X.K X.mg cf EX0 gcc) (te := tE X.K X.mg cf EX0 ff) hc hN hy hyl hsw hi ok hg ht he hs) fun D σ H ⟨env, S, μ, F, s, q⟩ => comp_read hsl σ H _ ⟨env, S, μ, F, s, (PostS.expr q).mono fun w S1 H1 μ1 s1 x1 q1 v rv => by
    split at q1
    · rename_i pw
      obtain ⟨s2, x2⟩ := s1.set pw rv
      exact q1 _ H1 μ1 s2 x2
    · exact q1.elim⟩
/-- x op= e, of plain things -/
def sAug (i : Nat) (g : G2) (f : SE) : SS := fun cf env S => match env[i]? with
  | some (some w) => if w.plain then (f cf env S).then env fun u S1 => (g w u S1).then env fun z S2 => if z.plain then .next (env.set i (some z)) S2 else .stuck else .stuck
  | _ => .stuck
theorem ms_aug {i : Nat} {op : Operator} {r : R2} {g : G2} {pp : Pos} (hN : X.N.Nodup) (hi : X.N[i]? = some x) (hx : Loc X.env.scope x) (ho : OpR X (inplaceOp op) r) (o : Op X EX r g) (hp : ∀ w u S, w.plain = false ∨ u.plain = false → g w u S = .stuck) (h : ME X cf EX e fa)
    (hf : X.fn x = true ∨ X.env.scope.names.lookup x = some .local := by first | exact .inl rfl | exact .inr rfl | assumption) : MS X cf EX (.AugAssign (.Name x pp) op e pos) (sAug i g fa) := by
  refine PS.weak (ps_aug hN hi hx h (ti := fun x y H Q => r x y H Q) (fun pins s σ H x y v u Q I rx ry q => ho pins s σ H x y v u Q I rx ry q) hf) fun D σ H ⟨env, S, μ, F, s, q⟩ => ?_
  unfold sAug at q
  split at q
  · rename_i w e0
    split at q
    · rename_i pw
      obtain ⟨v, hv, rv⟩ := s.slot i w e0
      refine ⟨v, hv, env, S, μ, F, s, (PostS.expr q).mono fun u S1 H1 μ1 s1 x1 q1 v2 rv2 => ?_⟩
      by_cases pu : u.plain = true
      · refine o F σ env S1 H1 μ1 v v2 w u _ s1 (RW.keep (x1.nn F) x1.pre rv pw) pw rv2 pu ((PostS.expr q1).mono fun z S2 H2 μ2 s2 x2 q2 v3 rv3 => ?_)
        split at q2
        · rename_i pz
          obtain ⟨s3, x3⟩ := s2.set pz rv3
          exact q2 _ H2 μ2 s3 x3
        · exact q2.elim
      · rw [hp w u S1 (.inr (by simpa using pu))] at q1
        exact q1.elim
    · exact q.elim
  · exact q.elim
/-- + of whole numbers -/
def gAddI : G2
  | .d (.int a), .d (.int b), S => .ok (.d (.int (a + b))) S
  | _, _, _ => .stuck
theorem ms_augAdd {i : Nat} {pp : Pos} (hN : X.N.Nodup) (hi : X.N[i]? = some x) (hx : Loc X.env.scope x) (h : ME X cf EX e fa)
    (hf : X.fn x = true ∨ X.env.scope.names.lookup x = some .local := by first | exact .inl rfl | exact .inr rfl | assumption) : MS X cf EX (.AugAssign (.Name x pp) .Add e pos) (sAug i gAddI fa) :=
  ms_aug hN hi hx iop_add (o_int0 fun w u S => by
    unfold gAddI
    split
    · exact .inl ⟨_, _, rfl, rfl, _, fun _ _ => .int _, rfl⟩
    · exact .inr rfl) (gp_int fun w u S k => by
    unfold gAddI at k
    split at k
    · exact ⟨_, _, rfl, rfl⟩
    · exact absurd rfl k) h hf
theorem ms_augSub {i : Nat} {pp : Pos} (hN : X.N.Nodup) (hi : X.N[i]? = some x) (hx : Loc X.env.scope x) (h : ME X cf EX e fa)
    (hf : X.fn x = true ∨ X.env.scope.names.lookup x = some .local := by first | exact .inl rfl | exact .inr rfl | assumption) : MS X cf EX (.AugAssign (.Name x pp) .Sub e pos) (sAug i gSub fa) :=
  ms_aug hN hi hx iop_sub (o_int0 fun w u S => by
    unfold gSub
    split
    · exact .inl ⟨_, _, rfl, rfl, _, fun _ _ => .int _, rfl⟩
    · exact .inr rfl) (gp_int fun w u S k => by
    unfold gSub at k
    split at k
    · exact ⟨_, _, rfl, rfl⟩
    · exact absurd rfl k) h hf
/-- o[i] = e, o a list of the store -/
def sSetIx (o i f : SE) : SS := fun cf env S => (f cf env S).then env fun w S1 => (o cf env S1).then env fun u S2 => (i cf env S2).then env fun k S3 => match w, u, k with
  | .d x, .ref n, .d (.int j) => (match S3[n]? with
    | some (.lst xs) => (match ixN xs.length j with
      | some m => .next env (S3.set n (.lst (xs.set m x)))
      | none => .stuck)
    | _ => .stuck)
  | _, _, _ => .stuck
theorem nd_ix {α : Type} : ∀ {l : List α} {i j : Nat} {x : α}, l.Nodup → l[i]? = some x → l[j]? = some x → i = j
  | [], _, _, _, _, h, _ => by simp at h
  | a :: l, 0, 0, _, _, _, _ => rfl
  | a :: l, 0, j + 1, x, nd, h1, h2 => by
    simp at h1 h2
    subst h1
    exact absurd (List.mem_of_getElem? h2) (List.nodup_cons.mp nd).1
  | a :: l, i + 1, 0, x, nd, h1, h2 => by
    simp at h1 h2
    subst h2
    exact absurd (List.mem_of_getElem? h1) (List.nodup_cons.mp nd).1
  | a :: l, i + 1, j + 1, x, nd, h1, h2 => congrArg (· + 1) (nd_ix (List.nodup_cons.mp nd).2 (by simpa using h1) (by simpa using h2))
theorem Sim.store (s : Sim K mg F σ H env S μ) {n : Nat} {a : Addr} {vs vs' : List V} {xs xs' : List D} (hn : μ[n]? = some a) (hS : S[n]? = some (.lst xs)) (ha : H a = some (.lst vs)) (t : DnAll K H (NN F μ σ env) vs' xs') :
    Sim K mg F σ (upd H a (.lst vs')) env (S.set n (.lst xs')) μ ∧ Ext σ env H μ (upd H a (.lst vs')) μ := by
  have am : a ∈ μ := List.mem_of_getElem? hn
  have kp : Keep (MM μ σ env) H (MM μ σ env) (upd H a (.lst vs')) := fun b o nb q => by
    have ne : b ≠ a := fun z => nb (z ▸ .inl am)
    exact ⟨by rw [upd_ne ne]; exact q, nb⟩
  have ex : Ext σ env H μ (upd H a (.lst vs')) μ := ⟨kp, List.prefix_refl _⟩
  have kn := ex.nn F
  refine ⟨⟨s.len, fun i w e => ?_, s.fin, s.inj, s.apart, ⟨by simpa using s.st.len, s.st.nd, fun k ob e => ?_⟩, fun b f => ?_, s.fdis⟩, ex⟩
  · obtain ⟨v, hv, r⟩ := s.slot i w e
    refine ⟨v, hv, ?_⟩
    by_cases po : w.isOwn = true
    · obtain ⟨b, vs', xs', rfl, rfl, hb, tb⟩ := own_or_plain r po
      have ne : b ≠ a := fun z => s.apart i b ⟨hv, _, e, rfl⟩ (z ▸ am)
      exact .own (by rw [upd_ne ne]; exact hb) (tb.keep kn)
    · have pl : w.plain = true := by
        have fi := s.fin i w e
        unfold W.fine at fi
        simpa [po] using fi
      exact RW.keep kn (List.prefix_refl _) r pl
  · rcases set_get e with ⟨z, y⟩ | ⟨nk, z⟩
    · subst z
      cases y
      exact ⟨a, hn, .lst upd_same (t.keep kn)⟩
    · obtain ⟨b, hb, r⟩ := s.st.obj k ob z
      have ne : b ≠ a := fun y => nk (nd_ix s.st.nd hb (y ▸ hn))
      refine ⟨b, hb, ?_⟩
      cases r with
      | lst h t' => exact .lst (by rw [upd_ne ne]; exact h) (t'.keep kn)
      | ins g h m t' pl => exact .ins g (by rw [upd_ne ne]; exact h) m (RWs.keep kn (List.prefix_refl _) t' pl) pl
  · obtain ⟨u, hu⟩ := s.ftr b f
    have ne : b ≠ a := fun z => s.fdis b f (.inl (z ▸ am))
    exact ⟨u, by rw [upd_ne ne]; exact hu⟩
theorem ms_setIx {o i : Expr} {fo fi fe : SE} {p2 : Pos} (he : ME X cf EX e fe) (ho : ME X cf EX o fo) (hi : ME X cf EX i fi)
    (ha : ∀ v, assign (.Subscript o i p2) X.env v = (do
      let ov ← holding [v] (eval o X.env)
      let iv ← holding [v, ov] (eval i X.env)
      standAt p2
      holding [v, ov, iv] (setItem ov iv v)
      release [v, ov, iv] []) := by intro _; rfl) (hs : swapsWithSole [.Subscript o i p2] e pos.line X.env = pure false := by rfl) (hw : swappedStores [.Subscript o i p2] e X.env = pure none := by rfl)
    (h1 : (assignEach [.Subscript o i p2] X.env).map (·.2) = [assign (.Subscript o i p2) X.env] := by rfl) : MS X cf EX (.Assign [.Subscript o i p2] e pos) (sSetIx fo fi fe) := by
  refine PS.weak (ps_asg he (pg_sub ho hi set_list ha) hs hw h1) fun D σ H ⟨env, S, μ, F, s, q⟩ => ⟨env, S, μ, F, s, (PostS.expr q).mono fun w S1 H1 μ1 s1 x1 q1 v rv => ?_⟩
  refine ⟨env, S1, μ1, F, s1, (PostS.expr q1).mono fun u S2 H2 μ2 s2 x2 q2 v2 rv2 => ?_⟩
  refine ⟨env, S2, μ2, F, s2, (PostS.expr q2).mono fun k S3 H3 μ3 s3 x3 q3 v3 rv3 => ?_⟩
  split at q3
  · split at q3
    · rename_i hS
      split at q3
      · rename_i m hm
        cases rv2 with
        | ref hn =>
          have hn3 := pre_get x3.pre hn
          obtain ⟨a, ha, ro⟩ := s3.st.obj _ _ hS
          rw [hn3] at ha
          cases ha
          cases ro with
          | lst h t =>
            cases rv with
            | d rd =>
              have rd3 := rd.keep ((x2.nn F).trans (x3.nn F))
              refine ⟨_, _, _, m, rfl, rw_int rv3, h, by rw [t.length]; exact hm, ?_⟩
              obtain ⟨s4, x4⟩ := s3.store hn3 hS h (DnAll.set rd3 m t)
              exact q3 σ _ μ3 s4 x4.s
      · exact q3.elim
    · exact q3.elim
  · exact q3.elim
/-- a, b = e1, e2, e3: names of the frame, stored at once -/
def setW : List Nat → List W → EnvQ → Option EnvQ
  | [], [], env => some env
  | i :: is, w :: ws, env => setW is ws (env.set i (some w))
  | _, _, _ => none
def sPar (is : List Nat) (a : SA) : SS := fun cf env S => (a cf env S).then env fun ws S' => if W.plains ws then (match setW is ws env with
  | some env' => .next env' S'
  | none => .stuck) else .stuck
theorem Sim.set2 (s : Sim K mg F σ H env S μ) {i j : Nat} {v u : V} {w z : W} (pw : w.plain = true) (pz : z.plain = true) (r : RW K mg H (NN F μ σ env) μ v w) (r2 : RW K mg H (NN F μ σ env) μ u z) :
    Sim K mg F ((σ.set i (some v)).set j (some u)) H ((env.set i (some w)).set j (some z)) S μ ∧ ExS σ env H μ ((σ.set i (some v)).set j (some u)) ((env.set i (some w)).set j (some z)) H μ := by
  obtain ⟨s1, x1⟩ := s.set (i := i) pw r
  obtain ⟨s2, x2⟩ := s1.set (i := j) pz (RW.keep (x1.nn F) x1.pre r2 pz)
  exact ⟨s2, x1.trans x2⟩
theorem ms_par2 {i j : Nat} {y : Str} {a b : Expr} {px py pt : Pos} {kt k2 pt2} (hc : X.calm = true) (hN : X.N.Nodup) (hi : X.N[i]? = some x) (hj : X.N[j]? = some y) (hij : i ≠ j)
    (hx : X.env.scope.names.lookup x = some .local) (hy : X.env.scope.names.lookup y = some .local) (h : MA X cf EX [a, b] ha)
    (hw : swappedStores [.Tuple [.Name x px, .Name y py] kt pt] (.Tuple [a, b] k2 pt2) X.env = pure (some [x, y]))
    (hs : swapsWithSole [.Tuple [.Name x px, .Name y py] kt pt] (.Tuple [a, b] k2 pt2) pos.line X.env = pure false := by rfl) :
    MS X cf EX (.Assign [.Tuple [.Name x px, .Name y py] kt pt] (.Tuple [a, b] k2 pt2) pos) (sPar [i, j] ha) :=
  PS.weak (ps_par hc hN hi hj hij hx hy h hw hs) fun D σ H ⟨env, S, μ, F, s, q⟩ => ⟨env, S, μ, F, s, (PostS.expr q).mono fun ws S1 H1 μ1 s1 x1 q1 vs rvs => by
    split at q1
    · rename_i pl
      cases rvs with
      | nil => simp [setW] at q1; exact q1.elim
      | cons r1 t =>
        cases t with
        | nil => simp [setW] at q1; exact q1.elim
        | cons r2 t =>
          cases t with
          | cons _ _ => simp [setW] at q1; exact q1.elim
          | nil =>
            simp only [W.plains, Bool.and_eq_true, and_true] at pl
            obtain ⟨s2, x2⟩ := s1.set2 (i := i) (j := j) pl.1 pl.2 r1 r2
            exact ⟨_, _, rfl, q1 _ H1 μ1 s2 x2⟩
    · exact q1.elim⟩
theorem ms_par3 {i j l : Nat} {y z : Str} {a b c : Expr} {px py pz pt : Pos} {kt k2 pt2} (hc : X.calm = true) (hN : X.N.Nodup) (hi : X.N[i]? = some x) (hj : X.N[j]? = some y) (hl : X.N[l]? = some z) (hij : i ≠ j) (hil : i ≠ l) (hjl : j ≠ l)
    (hx : X.env.scope.names.lookup x = some .local) (hy : X.env.scope.names.lookup y = some .local) (hz : X.env.scope.names.lookup z = some .local) (h : MA X cf EX [a, b, c] ha)
    (hw : swappedStores [.Tuple [.Name x px, .Name y py, .Name z pz] kt pt] (.Tuple [a, b, c] k2 pt2) X.env = pure (some [x, y, z]))
    (hs : swapsWithSole [.Tuple [.Name x px, .Name y py, .Name z pz] kt pt] (.Tuple [a, b, c] k2 pt2) pos.line X.env = pure false := by rfl) :
    MS X cf EX (.Assign [.Tuple [.Name x px, .Name y py, .Name z pz] kt pt] (.Tuple [a, b, c] k2 pt2) pos) (sPar [i, j, l] ha) :=
  PS.weak (ps_par3 hc hN hi hj hl hij hil hjl hx hy hz h hw hs) fun D σ H ⟨env, S, μ, F, s, q⟩ => ⟨env, S, μ, F, s, (PostS.expr q).mono fun ws S1 H1 μ1 s1 x1 q1 vs rvs => by
    split at q1
    · rename_i pl
      cases rvs with
      | nil => simp [setW] at q1; exact q1.elim
      | cons r1 t =>
        cases t with
        | nil => simp [setW] at q1; exact q1.elim
        | cons r2 t =>
          cases t with
          | nil => simp [setW] at q1; exact q1.elim
          | cons r3 t =>
            cases t with
            | cons _ _ => simp [setW] at q1; exact q1.elim
            | nil =>
              simp only [W.plains, Bool.and_eq_true, and_true] at pl
              obtain ⟨s2, x2⟩ := s1.set2 (i := i) (j := j) pl.1 pl.2.1 r1 r2
              obtain ⟨s3, x3⟩ := s2.set (i := l) pl.2.2 (RW.keep (x2.nn F) x2.pre r3 pl.2.2)
              exact ⟨_, _, _, rfl, q1 _ H1 μ1 s3 (x2.trans x3)⟩
    · exact q1.elim⟩
end
end Q

namespace Q
open PySem PySem.Spec PyProof.Rows L2
section
variable {X : Cx} {cf : CF} {EX : WX} {F : Addr → Prop} {σ : L2.St} {env : EnvQ} {S S' : Sto} {H H' : Hp} {μ μ' : List Addr} {K : PySem.W.Frag} {mg : Str → Option Value} {e a b c tg : Expr} {es : List Expr} {fa fb : SE} {ha hb : SA} {pos p : Pos} {x : Str}

theorem Sim.alloc (s : Sim K mg F σ H env S μ) {p : Addr} {vs : List V} {xs : List D} (n : H p = none) (t : DnAll K H (NN F μ σ env) vs xs) : Sim K mg F σ (upd H p (.lst vs)) env (S ++ [.lst xs]) (μ ++ [p]) ∧ Ext σ env H μ (upd H p (.lst vs)) (μ ++ [p]) := by
  have kp : Keep (MM μ σ env) H (MM (μ ++ [p]) σ env) (upd H p (.lst vs)) := fun a o na e => by
    have ne : a ≠ p := ne_of_none e n
    refine ⟨by rw [upd_ne ne]; exact e, fun h => ?_⟩
    rcases h with h | h
    · rcases List.mem_append.mp h with h | h
      · exact na (.inl h)
      · exact ne (by simpa using h)
    · exact na (.inr h)
  have ex : Ext σ env H μ (upd H p (.lst vs)) (μ ++ [p]) := ⟨kp, List.prefix_append _ _⟩
  have kn := ex.nn F
  have np : ∀ a, NN F μ σ env a → a ≠ p := fun a h z => s.fresh n (z ▸ h)
  refine ⟨⟨s.len, fun i w e => ?_, s.fin, s.inj, fun i a h m => ?_, ⟨?_, ?_, fun k ob e => ?_⟩, fun a f => ?_, fun a f h => ?_⟩, ex⟩
  · obtain ⟨v, hv, r⟩ := s.slot i w e
    refine ⟨v, hv, ?_⟩
    by_cases po : w.isOwn = true
    · obtain ⟨b, vs', xs', rfl, rfl, hb, tb⟩ := own_or_plain r po
      exact .own (by rw [upd_ne (ne_of_none hb n)]; exact hb) (tb.keep kn)
    · have pl : w.plain = true := by
        have fi := s.fin i w e
        unfold W.fine at fi
        simpa [po] using fi
      exact RW.keep kn ex.pre r pl
  · rcases List.mem_append.mp m with m | m
    · exact s.apart i a h m
    · exact np a (.inl (.inr ⟨i, h⟩)) (by simpa using m)
  · rw [List.length_append, List.length_append, s.st.len]
    rfl
  · refine List.nodup_append.mpr ⟨s.st.nd, by simp, fun a h1 b h2 z => ?_⟩
    subst z
    exact np a (.inl (.inl h1)) (by simpa using h2)
  · by_cases hk : k < S.length
    · rw [List.getElem?_append_left hk] at e
      obtain ⟨b, hb, r⟩ := s.st.obj k ob e
      refine ⟨b, pre_get ex.pre hb, ?_⟩
      cases r with
      | lst h t' => exact .lst (by rw [upd_ne (ne_of_none h n)]; exact h) (t'.keep kn)
      | ins g h m t' pl => exact .ins g (by rw [upd_ne (ne_of_none h n)]; exact h) m (RWs.keep kn ex.pre t' pl) pl
    · rw [List.getElem?_append_right (by omega)] at e
      have k0 : k - S.length = 0 := by
        have := (List.getElem?_eq_some_iff.mp e).1
        simp at this
        omega
      rw [k0] at e
      simp at e
      subst e
      refine ⟨p, ?_, .lst upd_same (t.keep kn)⟩
      rw [List.getElem?_append_right (by rw [s.st.len]; omega), s.st.len, k0]
      rfl
  · obtain ⟨u, hu⟩ := s.ftr a f
    exact ⟨u, by rw [upd_ne (ne_of_none hu n)]; exact hu⟩
  · rcases h with h | h
    · rcases List.mem_append.mp h with h | h
      · exact s.fdis a f (.inl h)
      · exact np a (.inr f) (by simpa using h)
    · exact s.fdis a f (.inr h)
def fNewL (a : SA) : SE := fun cf env S => (a cf env S).bind fun ws S1 => if ws.length ≤ LIM then (match datas ws with
  | some ds => .ok (.ref S1.length) (S1 ++ [.lst ds])
  | none => .stuck) else .stuck
theorem me_newL (h : MA X cf EX es ha) : ME X cf EX (.List es pos) (fNewL ha) :=
  PE.weak (pe_lst h) fun σ H Q ⟨env, S, μ, F, s, q⟩ => ⟨env, S, μ, F, s, (Post.bind q).mono fun ws S1 H1 μ1 s1 x1 q1 vs rvs => by
    split at q1
    · rename_i hl
      refine ⟨by rw [← lim_line, rvs.length]; exact hl, fun p n => ?_⟩
      split at q1
      · rename_i ds e
        obtain ⟨s2, x2⟩ := s1.alloc n (datas_dn rvs e)
        refine q1 _ _ s2 x2 _ (.ref ?_)
        rw [← s1.st.len, List.getElem?_append_right (Nat.le_refl _)]
        simp
      · exact q1.elim
    · exact q1.elim⟩

mutual
/-- more signs than a datum's text has -/
def cost : D → Nat
  | .none => 4
  | .bool _ => 5
  | .int _ => 1921
  | .str x => (reprText x).length
  | .list xs => costs xs + 2
  | .tuple xs => costs xs + 3
  | .dict _ => 0
def costs : List D → Nat
  | [] => 0
  | d :: ds => cost d + 2 + costs ds
end
def okShow (d : D) : Bool := d.showable && !d.hasDict && decide (d.depth ≤ 60) && decide (d.shown.length ≤ LIM)
def gRepr : GN
  | [.d d], S => if okShow d then .ok (.d (.str d.shown)) S else .stuck
  | _, _ => .stuck
theorem dn_dp' {v : V} {d : D} {N : Addr → Prop} (h : Dn K H N v d) (e : d.hasDict = false) : Dp K H v d := Dn.dp h (fun kvs q => by subst q; simp [PyData.hasDict] at e) e
theorem call_reprD {k : Nat} (hA : X.A.guards = some []) (hr : Room k X.A) : CallR X (.builtin "repr") (fun xs H Q => ∃ x d, xs = [x] ∧ Dp X.K H x d ∧ d.showable = true ∧ d.hasDict = false ∧ d.depth ≤ 60 ∧ d.shown.length ≤ sizeLine ∧ Q (.str d.shown) H) := by
  intro pins s σ H xs us Q I r h
  obtain ⟨x, d, rfl, hd, h1, h2, h3, h4, q⟩ := h
  obtain ⟨u, rfl, rx⟩ := vals1 r
  have un := hr.units
  obtain ⟨as, rd⟩ := Dp.reads I d x u hd rx
  cases d with
  | none =>
    cases rd
    exact PySem.P.repr_of_none ⟨.str _, H, I.tok _, ⟨_, rfl⟩, by simpa [PyData.shown] using q⟩
  | bool b =>
    cases rd
    exact PySem.P.repr_of_bool ⟨.str _, H, I.tok _, ⟨_, rfl⟩, by simpa [PyData.shown] using q⟩
  | int i =>
    cases rd
    exact PySem.P.repr_of_int (by simpa [PyData.showable] using h1) ⟨.str _, H, I.tok _, ⟨_, rfl⟩, by simpa [PyData.shown] using q⟩
  | str z =>
    cases rd
    exact PySem.P.repr_of_str ⟨.str _, H, I.tok _, ⟨_, rfl⟩, by simpa [PyData.shown] using q⟩ (by simpa [PyData.shown] using h4)
  | list ds =>
    have hu : X.A.units + (PyData.depth (.list ds) + 1) < cLine := by omega
    cases rd with
    | list e1 e2 e3 e4 =>
      exact repr_of_reads' (.list e1 e2 e3 e4) h1 (PyData.noDict_hsm h2) hA hu (fun _ _ e => e) (fun h' u tk hk => ⟨.str _, H, I.kept (t' := tk) hk, ⟨_, rfl⟩, q⟩) h4
  | tuple ds =>
    have hu : X.A.units + (PyData.depth (.tuple ds) + 1) < cLine := by omega
    cases rd with
    | tuple e1 e2 e3 e4 =>
      exact repr_of_reads' (.tuple e1 e2 e3 e4) h1 (PyData.noDict_hsm h2) hA hu (fun _ _ e => e) (fun h' u tk hk => ⟨.str _, H, I.kept (t' := tk) hk, ⟨_, rfl⟩, q⟩) h4
  | dict kvs => simp [PyData.hasDict] at h2
theorem co_repr : CallOp X EX (fun xs H Q => ∃ x d, xs = [x] ∧ Dp X.K H x d ∧ d.showable = true ∧ d.hasDict = false ∧ d.depth ≤ 60 ∧ d.shown.length ≤ sizeLine ∧ Q (.str d.shown) H) gRepr := by
  intro F σ env S H μ vs ws Q s rvs q
  unfold gRepr at q
  split at q
  · obtain ⟨v, rfl, rv⟩ := rws1 rvs
    split at q
    · rename_i hs
      simp only [okShow, Bool.and_eq_true, Bool.not_eq_true', decide_eq_true_eq] at hs
      obtain ⟨⟨⟨h1, h2⟩, h3⟩, h4⟩ := hs
      cases rv with
      | d hd => exact ⟨v, _, rfl, dn_dp' hd h2, h1, h2, h3, by rw [← lim_line]; exact h4, post_here s (.d (.str _)) q⟩
    · exact q.elim
  · exact q.elim
theorem me_repr {k : Nat} (hA : X.A.guards = some []) (hr : Room k X.A) (hg : Gl X "repr") (hm : X.mg "repr" = none) (h : MA X cf EX [e] ha) (he : starEach [e] X.env = (false, eval e X.env) :: starEach [] X.env := by rfl) (hpl : (backTo pos (starEach [] X.env)).any (·.1) = false := by rfl) :
    ME X cf EX (.Call (.Name "repr" p) [e] [] pos) (fB gRepr ha) := me_callB (call_reprD hA hr) co_repr hg hm (by decide +kernel) h (he := he) (hpl := hpl)

theorem sum_rawT {prog : Program} {w : World} {A : Around} {E : Value → Shared → Prop} {s : Shared} {l : Addr} {its : List Value} {ns : List Int} {Q : Value → Shared → Prop} (hh : A.handled = none) (hl : s.heap.IsTuple l its.toArray) (hi : IntsAre its ns)
    (h : ∀ h' tk t', (∀ b o, s.heap.get? b = some o → h'.get? b = some o) → Q (.int ns.sum t') { s with heap := h', toks := tk }) : wpAny (model prog w) A (call (.builtin "sum") [.ref l]) Q E s := by
  have lt : l < s.heap.objs.size := by
    obtain ⟨o, e, _⟩ := id hl
    exact Heap.lt_size e
  apply call_sum_walkG
  apply wpAny_pyIter_tuple hl
  refine ⟨_, _, _, _, _, _, fun i => ns.getD i 0, rfl, Walks.tuple (A := A.in1) hh s.heap.objs.size l (Nat.ne_of_lt lt) its.toArray, ⟨⟨_, Heap.get?_push_size _ rfl, rfl, rfl⟩, hl.push _⟩, ?_, ?_, ?_⟩
  · intro b hb
    show b < (s.heap.push _).objs.size
    rw [Heap.size_push]
    rcases List.mem_cons.mp hb with rfl | hb
    · exact Nat.lt_succ_self _
    · rw [List.mem_singleton] at hb
      subst hb
      exact Nat.lt_succ_of_lt lt
  · intro i v hv
    have hv : its[i]? = some v := by simpa using hv
    have aux : ∀ {us : List Value} {ms : List Int} (i : Nat) (v : Value), IntsAre us ms → us[i]? = some v → ∃ t, v = .int (ms.getD i 0) t := by
      intro us ms i v hm
      induction hm generalizing i with
      | nil => intro e; simp at e
      | cons n t _ ih =>
        intro e
        cases i with
        | zero =>
          simp at e
          exact ⟨t, by simp [e]⟩
        | succ i =>
          obtain ⟨t', e'⟩ := ih i (by simpa using e)
          exact ⟨t', by simpa using e'⟩
    exact aux i v hi hv
  · intro h' tk t' hk
    have e : preSum (fun i => ns.getD i 0) its.toArray.size = ns.sum := by
      have aux : ∀ (ms : List Int) (j : Nat), j ≤ ms.length → preSum (fun i => ms.getD i 0) j = (ms.take j).sum := by
        intro ms j
        induction j with
        | zero => intro _; simp [preSum]
        | succ j ih =>
          intro hj
          have hj' : j < ms.length := by omega
          show preSum (fun i => ms.getD i 0) j + ms.getD j 0 = _
          rw [ih (by omega), List.take_succ_eq_append_getElem hj', List.sum_append]
          simp [hj']
      rw [aux ns _ (by rw [List.size_toArray, hi.length]; exact Nat.le_refl _), List.size_toArray, hi.length, List.take_length]
    rw [e]
    refine h h' tk t' fun b o eb => hk b o (fun hb => ?_) (Heap.get?_push_of_some _ eb)
    rw [List.mem_singleton] at hb
    subst hb
    exact absurd (Heap.lt_size eb) (Nat.lt_irrefl _)
def gSum : GN
  | [.d (.list xs)], S => match intsOf xs with | some is => .ok (.d (.int is.sum)) S | none => .stuck
  | [.d (.tuple xs)], S => match intsOf xs with | some is => .ok (.d (.int is.sum)) S | none => .stuck
  | _, _ => .stuck
theorem call_sumA (hc : X.calm = true) : CallR X (.builtin "sum") (fun vs H Q => ∃ (a : Addr) (ns : List Int), vs = [V.ref a] ∧ (SqL X.K H a (ns.map V.int) ∨ SqT X.K H a (ns.map V.int)) ∧ Q (.int ns.sum) H) := by
  intro pins s σ H vs us Q I r h
  obtain ⟨a, ns, rfl, hs | hs, q⟩ := h
  · exact cr_sum hc pins s σ H _ us Q I r ⟨a, ns, rfl, hs, q⟩
  · obtain ⟨its, rv, hl, _⟩ := I.tuple hs
    rw [Vals.ref1 r]
    exact sum_rawT (I.ok.hd hc) hl (intsAre_of rv) fun h' tk t' hk => ⟨.int _, H, I.kept hk, ⟨_, rfl⟩, q⟩
theorem co_sum : CallOp X EX (fun vs H Q => ∃ (a : Addr) (ns : List Int), vs = [V.ref a] ∧ (SqL X.K H a (ns.map V.int) ∨ SqT X.K H a (ns.map V.int)) ∧ Q (.int ns.sum) H) gSum := by
  intro F σ env S H μ vs ws Q s rvs q
  unfold gSum at q
  split at q
  · obtain ⟨v, rfl, rv⟩ := rws1 rvs
    obtain ⟨a, us, rfl, na, ha, ta⟩ := rw_lst rv
    split at q
    · rename_i bs e
      have h := ints_dn ta e
      subst h
      exact ⟨a, bs, rfl, .inl (SqL.of ha), post_here s (.d (.int _)) q⟩
    · exact q.elim
  · obtain ⟨v, rfl, rv⟩ := rws1 rvs
    obtain ⟨a, us, rfl, ha, ta⟩ := rw_tup rv
    split at q
    · rename_i bs e
      have h := ints_dn ta e
      subst h
      exact ⟨a, bs, rfl, .inr ha.sq, post_here s (.d (.int _)) q⟩
    · exact q.elim
  · exact q.elim
theorem me_sum (hc : X.calm = true) (hg : Gl X "sum") (hm : X.mg "sum" = none) (h : MA X cf EX [e] ha) (he : starEach [e] X.env = (false, eval e X.env) :: starEach [] X.env := by rfl) (hpl : (backTo pos (starEach [] X.env)).any (·.1) = false := by rfl) :
    ME X cf EX (.Call (.Name "sum" p) [e] [] pos) (fB gSum ha) := me_callB (call_sumA hc) co_sum hg hm (by decide +kernel) h (he := he) (hpl := hpl)

def flatD : D → Bool
  | .none => true
  | .bool _ => true
  | .int _ => true
  | .str _ => true
  | _ => false
def inD (x : D) (xs : List D) : Bool := xs.any fun y => PyData.eqv y x
def gIn : G2
  | .d x, .d (.tuple xs), S => if flatD x && xs.all flatD then .ok (.d (.bool (inD x xs))) S else .stuck
  | .d x, .d (.list xs), S => if flatD x && xs.all flatD then .ok (.d (.bool (inD x xs))) S else if okEq x && okEq (.list xs) then .ok (.d (.bool (inD x xs))) S else .stuck
  | _, _, _ => .stuck
def gNotIn : G2
  | .d x, .d (.tuple xs), S => if flatD x && xs.all flatD then .ok (.d (.bool (!inD x xs))) S else .stuck
  | .d x, .d (.list xs), S => if flatD x && xs.all flatD then .ok (.d (.bool (!inD x xs))) S else if okEq x && okEq (.list xs) then .ok (.d (.bool (!inD x xs))) S else .stuck
  | _, _, _ => .stuck
theorem flat_v {N : Addr → Prop} {v : V} {d : D} (h : Dn K H N v d) (f : flatD d = true) : flatV v = true := by
  cases h <;> first | rfl | simp [flatD] at f
theorem flat_vs {N : Addr → Prop} : ∀ {vs : List V} {ds : List D}, DnAll K H N vs ds → ds.all flatD = true → vs.all flatV = true
  | _, _, .nil, _ => rfl
  | _, _, .cons h t, f => by
    simp only [List.all_cons, Bool.and_eq_true] at f ⊢
    exact ⟨flat_v h f.1, flat_vs t f.2⟩
theorem eqV_eqv {N : Addr → Prop} {v u : V} {d z : D} (h : Dn K H N v d) (h2 : Dn K H N u z) (f : flatD d = true) (f2 : flatD z = true) : eqV v u = PyData.eqv d z := by
  cases h <;> cases h2 <;> first | rfl | (exfalso; simp [flatD] at f; done) | (exfalso; simp [flatD] at f2; done) | simp [eqV, PyData.eqv]
theorem inV_inD {N : Addr → Prop} {v : V} {d : D} (h : Dn K H N v d) (f : flatD d = true) : ∀ {vs : List V} {ds : List D}, DnAll K H N vs ds → ds.all flatD = true → inV v vs = inD d ds
  | _, _, .nil, _ => rfl
  | _, _, .cons r t, g => by
    simp only [List.all_cons, Bool.and_eq_true] at g
    have ih := inV_inD h f t g.2
    unfold inV inD at ih ⊢
    rw [List.any_cons, List.any_cons, ih, eqV_eqv r h g.1 f]
theorem o_in : Op X EX (fun x y H Q => rIn X.K false x y H Q ∨ rInD X.K x y H Q) gIn := by
  intro F σ env S H μ x y w u Q s rx pw ry pu q
  unfold gIn at q
  split at q
  · obtain ⟨a, vs, rfl, ha, ta⟩ := rw_tup ry
    split at q
    · rename_i f
      rw [Bool.and_eq_true] at f
      cases rx with
      | d hx =>
        refine .inl ⟨a, vs, rfl, .inr ha.sq, flat_v hx f.1, flat_vs ta f.2, ?_⟩
        rw [inV_inD hx f.1 ta f.2]
        exact post_here s (.d (.bl _)) q
    · exact q.elim
  · obtain ⟨a, vs, rfl, na, ha, ta⟩ := rw_lst ry
    cases rx with
    | d hx =>
      split at q
      · rename_i f
        rw [Bool.and_eq_true] at f
        refine .inl ⟨a, vs, rfl, .inl (SqL.of ha), flat_v hx f.1, flat_vs ta f.2, ?_⟩
        rw [inV_inD hx f.1 ta f.2]
        exact post_here s (.d (.bl _)) q
      · split at q
        · rename_i f
          rw [Bool.and_eq_true] at f
          cases ry with
          | d hy =>
            obtain ⟨p1, s1⟩ := dn_dp hx f.1
            obtain ⟨p2, s2⟩ := dn_dp hy f.2
            exact .inr ⟨_, _, p1, p2, s1, s2, post_here s (.d (.bl _)) q⟩
        · exact q.elim
  · exact q.elim
theorem o_notIn : Op X EX (fun x y H Q => rIn X.K true x y H Q ∨ rNotInD X.K x y H Q) gNotIn := by
  intro F σ env S H μ x y w u Q s rx pw ry pu q
  unfold gNotIn at q
  split at q
  · obtain ⟨a, vs, rfl, ha, ta⟩ := rw_tup ry
    split at q
    · rename_i f
      rw [Bool.and_eq_true] at f
      cases rx with
      | d hx =>
        refine .inl ⟨a, vs, rfl, .inr ha.sq, flat_v hx f.1, flat_vs ta f.2, ?_⟩
        rw [inV_inD hx f.1 ta f.2]
        exact post_here s (.d (.bl _)) q
    · exact q.elim
  · obtain ⟨a, vs, rfl, na, ha, ta⟩ := rw_lst ry
    cases rx with
    | d hx =>
      split at q
      · rename_i f
        rw [Bool.and_eq_true] at f
        refine .inl ⟨a, vs, rfl, .inl (SqL.of ha), flat_v hx f.1, flat_vs ta f.2, ?_⟩
        rw [inV_inD hx f.1 ta f.2]
        exact post_here s (.d (.bl _)) q
      · split at q
        · rename_i f
          rw [Bool.and_eq_true] at f
          cases ry with
          | d hy =>
            obtain ⟨p1, s1⟩ := dn_dp hx f.1
            obtain ⟨p2, s2⟩ := dn_dp hy f.2
            exact .inr ⟨_, _, p1, p2, s1, s2, post_here s (.d (.bl _)) q⟩
        · exact q.elim
  · exact q.elim
theorem units65 {k : Nat} {A : Around} (hr : Room k A) : A.units + 65 < cLine := by
  have := hr.un
  omega
theorem cm_in {k : Nat} (hr : Room k X.A) : Cm X EX .In gIn := ⟨⟨_, OpR.or op_in_seq (op_inD (units65 hr)), o_in⟩, g_plain _ fun w u S k => by
  unfold gIn at k
  split at k <;> first | exact ⟨rfl, rfl⟩ | exact absurd rfl k⟩
theorem cm_notIn {k : Nat} (hr : Room k X.A) : Cm X EX .NotIn gNotIn := ⟨⟨_, OpR.or op_notIn_seq (op_notInD (units65 hr)), o_notIn⟩, g_plain _ fun w u S k => by
  unfold gNotIn at k
  split at k <;> first | exact ⟨rfl, rfl⟩ | exact absurd rfl k⟩
/-- is, is not of truths -/
def gIsB : G2
  | .d (.bool a), .d (.bool b), S => .ok (.d (.bool (decide (a = b)))) S
  | _, _, _ => .stuck
def gNotB : G2
  | .d (.bool a), .d (.bool b), S => .ok (.d (.bool (!decide (a = b)))) S
  | _, _, _ => .stuck
theorem cm_isB : Cm X EX .Is gIsB := ⟨⟨_, op_isBl, fun F σ env S H μ x y w u Q s rx pw ry pu q => by
  unfold gIsB at q
  split at q
  · exact ⟨_, _, rw_bl rx, rw_bl ry, post_here s (.d (.bl _)) q⟩
  · exact q.elim⟩, g_plain _ fun w u S k => by
  unfold gIsB at k
  split at k <;> first | exact ⟨rfl, rfl⟩ | exact absurd rfl k⟩
theorem cm_notB : Cm X EX .IsNot gNotB := ⟨⟨_, op_notBl, fun F σ env S H μ x y w u Q s rx pw ry pu q => by
  unfold gNotB at q
  split at q
  · exact ⟨_, _, rw_bl rx, rw_bl ry, post_here s (.d (.bl _)) q⟩
  · exact q.elim⟩, g_plain _ fun w u S k => by
  unfold gNotB at k
  split at k <;> first | exact ⟨rfl, rfl⟩ | exact absurd rfl k⟩

/-- a list that nobody knows becomes one's own -/
theorem Sim.adopt {p : Addr} (s : Sim K mg (fun a => a = p ∨ F a) σ H env S μ) {i : Nat} {vs : List V} {xs : List D} (hp : H p = some (.lst vs)) (t : DnAll K H (NN (fun a => a = p ∨ F a) μ σ env) vs xs) (fp : ¬ F p) :
    Sim K mg F (σ.set i (some (.ref p))) H (env.set i (some (.own xs))) S μ ∧ ∀ a, MM μ (σ.set i (some (.ref p))) (env.set i (some (.own xs))) a → a = p ∨ MM μ σ env a := by
  have np : ¬ MM μ σ env p := s.fdis p (.inl rfl)
  have ow : ∀ j a, OwnAt (σ.set i (some (.ref p))) (env.set i (some (.own xs))) j a → (j = i ∧ a = p) ∨ (j ≠ i ∧ OwnAt σ env j a) := fun j a ⟨h1, u, h2, h3⟩ => by
    rcases set_get h2 with ⟨e, z⟩ | ⟨n, z⟩
    · rcases set_get h1 with ⟨_, y⟩ | ⟨ne, _⟩
      · cases y
        exact .inl ⟨e, rfl⟩
      · exact absurd e ne
    · rcases set_get h1 with ⟨e, _⟩ | ⟨_, y⟩
      · exact absurd e n
      · exact .inr ⟨n, y, u, z, h3⟩
  have sub : ∀ a, MM μ (σ.set i (some (.ref p))) (env.set i (some (.own xs))) a → a = p ∨ MM μ σ env a := fun a h => h.elim (fun h => .inr (.inl h)) fun ⟨j, h⟩ => (ow j a h).elim (fun h => .inl h.2) fun h => .inr (.inr ⟨j, h.2⟩)
  have subN : ∀ a, NN F μ (σ.set i (some (.ref p))) (env.set i (some (.own xs))) a → NN (fun a => a = p ∨ F a) μ σ env a := fun a h => h.elim (fun h => (sub a h).elim (fun h => .inr (.inl h)) .inl) fun h => .inr (.inr h)
  refine ⟨⟨by simpa using s.len, fun j u e => ?_, fun j u e => ?_, fun j k a h1 h2 => ?_, fun j a h m => ?_, s.st.sub subN, fun a f => s.ftr a (.inr f), fun a f h => ?_⟩, sub⟩
  · rcases set_get e with ⟨z, y⟩ | ⟨nj, z⟩
    · subst z
      cases y
      have hl : j < σ.length := by
        rw [s.len]
        have q := (List.getElem?_eq_some_iff.mp e).1
        simpa using q
      exact ⟨_, List.getElem?_set_self hl, .own hp (t.keep (Keep.sub subN))⟩
    · obtain ⟨v', h1, h2⟩ := s.slot j u z
      exact ⟨v', by rw [List.getElem?_set_ne (Ne.symm nj)]; exact h1, RW.sub subN h2⟩
  · rcases set_get e with ⟨z, y⟩ | ⟨n, z⟩
    · cases y
      rfl
    · exact s.fin j u z
  · rcases ow j a h1 with ⟨e1, e2⟩ | ⟨e1, e2⟩
    · rcases ow k a h2 with ⟨e3, _⟩ | ⟨_, e4⟩
      · rw [e1, e3]
      · exact absurd (e2 ▸ .inr ⟨k, e4⟩) np
    · rcases ow k a h2 with ⟨_, e4⟩ | ⟨_, e4⟩
      · exact absurd (e4 ▸ .inr ⟨j, e2⟩) np
      · exact s.inj j k a e2 e4
  · rcases ow j a h with ⟨_, e2⟩ | ⟨_, e2⟩
    · subst e2
      exact np (.inl m)
    · exact s.apart j a e2 m
  · rcases sub a h with e | h
    · exact fp (e ▸ f)
    · exact s.fdis a (.inr f) h
/-- behind a new list at p: the callers' too -/
theorem Sim.lay (s : Sim K mg F σ H env S μ) {p : Addr} {o : HO} (n : H p = none) : Sim K mg (fun a => a = p ∨ F a) σ (upd H p o) env S μ := by
  have kp : Keep (NN F μ σ env) H (NN (fun a => a = p ∨ F a) μ σ env) (upd H p o) := fun a u na e => by
    have ne : a ≠ p := ne_of_none e n
    exact ⟨by rw [upd_ne ne]; exact e, fun h => h.elim (fun h => na (.inl h)) fun h => h.elim ne fun h => na (.inr h)⟩
  refine ⟨s.len, fun i w e => ?_, s.fin, s.inj, s.apart, ⟨s.st.len, s.st.nd, fun k ob e => ?_⟩, fun a f => ?_, fun a f h => ?_⟩
  · obtain ⟨v, hv, r⟩ := s.slot i w e
    refine ⟨v, hv, ?_⟩
    by_cases po : w.isOwn = true
    · obtain ⟨a, vs', xs', rfl, rfl, hb, tb⟩ := own_or_plain r po
      exact .own (by rw [upd_ne (ne_of_none hb n)]; exact hb) (tb.keep kp)
    · have pl : w.plain = true := by
        have fi := s.fin i w e
        unfold W.fine at fi
        simpa [po] using fi
      exact RW.keep kp (List.prefix_refl _) r pl
  · obtain ⟨b, hb, r⟩ := s.st.obj k ob e
    refine ⟨b, hb, ?_⟩
    cases r with
    | lst h t' => exact .lst (by rw [upd_ne (ne_of_none h n)]; exact h) (t'.keep kp)
    | ins g h m t' pl => exact .ins g (by rw [upd_ne (ne_of_none h n)]; exact h) m (RWs.keep kp (List.prefix_refl _) t' pl) pl
  · rcases f with rfl | f
    · exact ⟨_, upd_same⟩
    · obtain ⟨u, hu⟩ := s.ftr a f
      exact ⟨u, by rw [upd_ne (ne_of_none hu n)]; exact hu⟩
  · rcases f with rfl | f
    · exact s.fresh n (.inl h)
    · exact s.fdis a f h
theorem tr_none (s : Sim K mg F σ H env S μ) {p : Addr} (n : H p = none) : ¬ F p := fun f => by
  obtain ⟨u, hu⟩ := s.ftr p f
  rw [n] at hu
  cases hu
/-- x, y, z = [..], e2, e3 -/
def sParO3a (i j l : Nat) (a : SA) (f2 f3 : SE) : SS := fun cf env S => (a cf env S).then env fun ws S1 => if ws.length ≤ LIM then (match datas ws with
  | some ds => (f2 cf env S1).then env fun u S2 => if u.plain then (f3 cf env S2).then env fun w S3 => if w.plain then .next (((env.set j (some u)).set l (some w)).set i (some (.own ds))) S3 else .stuck else .stuck
  | none => .stuck) else .stuck
theorem Sim.unlay {p : Addr} (s' : Sim K mg (fun a => a = p ∨ F a) σ H env S μ) : Sim K mg F σ H env S μ :=
  ⟨s'.len, fun i w e => let ⟨v, hv, r⟩ := s'.slot i w e; ⟨v, hv, RW.sub (fun a h => h.elim .inl fun h => .inr (.inr h)) r⟩, s'.fin, s'.inj, s'.apart, s'.st.sub fun a h => h.elim .inl fun h => .inr (.inr h), fun a f => s'.ftr a (.inr f), fun a f => s'.fdis a (.inr f)⟩
theorem ms_parO3a {i j l : Nat} {y z : Str} {b c : Expr} {fb fc : SE} {px py pz pt lp : Pos} {kt k2 pt2} (hc : X.calm = true) (hN : X.N.Nodup) (hi : X.N[i]? = some x) (hj : X.N[j]? = some y) (hl : X.N[l]? = some z) (hij : i ≠ j) (hil : i ≠ l) (hjl : j ≠ l)
    (hx : X.env.scope.names.lookup x = some .local) (hy : X.env.scope.names.lookup y = some .local) (hz : X.env.scope.names.lookup z = some .local) (h1 : MA X cf EX es ha) (h2 : ME X cf EX b fb) (h3 : ME X cf EX c fc)
    (hw : swappedStores [.Tuple [.Name x px, .Name y py, .Name z pz] kt pt] (.Tuple [.List es lp, b, c] k2 pt2) X.env = pure (some [x, y, z]))
    (hs : swapsWithSole [.Tuple [.Name x px, .Name y py, .Name z pz] kt pt] (.Tuple [.List es lp, b, c] k2 pt2) pos.line X.env = pure false := by rfl)
    (e1 : starEach (.List es lp :: [b, c]) X.env = (false, eval (.List es lp) X.env) :: starEach [b, c] X.env := by rfl) (e2 : starEach (b :: [c]) X.env = (false, eval b X.env) :: starEach [c] X.env := by rfl) (e3 : starEach (c :: []) X.env = (false, eval c X.env) :: starEach [] X.env := by rfl) :
    MS X cf EX (.Assign [.Tuple [.Name x px, .Name y py, .Name z pz] kt pt] (.Tuple [.List es lp, b, c] k2 pt2) pos) (sParO3a i j l ha fb fc) := by
  refine PS.weak (ps_par3 hc hN hi hj hl hij hil hjl hx hy hz (pa_cons (pe_lst h1) (pa_cons h2 (pa_cons h3 pa_nil e3) e2) e1) hw hs) fun D σ H ⟨env, S, μ, F, s, q⟩ => ⟨env, S, μ, F, s, (PostS.expr q).mono fun ws S1 H1 μ1 s1 x1 q1 vs rvs => ?_⟩
  split at q1
  · rename_i hlen
    refine ⟨by rw [← lim_line, rvs.length]; exact hlen, fun p n => ?_⟩
    split at q1
    · rename_i ds e
      have fp := tr_none s1 n
      have s1' := s1.lay (o := .lst vs) n
      have dd := datas_dn rvs e
      have up : ∀ {H' : Hp} {μ' : List Addr}, Ext σ env (upd H1 p (.lst vs)) μ1 H' μ' → Ext σ env H1 μ1 H' μ' := fun x => (ext_new n).trans x
      have at_p : ∀ {H' : Hp} {μ' : List Addr}, Ext σ env (upd H1 p (.lst vs)) μ1 H' μ' → H' p = some (.lst vs) := fun x => (x.keep p _ (fun h => s1.fresh n (.inl h)) upd_same).1
      refine ⟨env, S1, μ1, _, s1', ?_⟩
      cases r2 : fb cf env S1 with
      | stuck =>
        rw [r2] at q1
        exact q1
      | exc c0 S2 =>
        rw [r2] at q1
        exact fun C H2 μ2 g s2 x2 => q1 C σ H2 μ2 g s2.unlay (up x2).s
      | ok u S2 =>
        rw [r2, R.then_ok] at q1
        intro H2 μ2 s2 x2 v2 rv2
        split at q1
        · rename_i pu
          refine ⟨env, S2, μ2, _, s2, ?_⟩
          cases r3 : fc cf env S2 with
          | stuck =>
            rw [r3] at q1
            exact q1
          | exc c0 S3 =>
            rw [r3] at q1
            exact fun C H3 μ3 g s3 x3 => q1 C σ H3 μ3 g s3.unlay (up (x2.trans x3)).s
          | ok w S3 =>
            rw [r3, R.then_ok] at q1
            intro H3 μ3 s3 x3 v3 rv3
            split at q1
            · rename_i pw
              have rv2' := RW.keep (x3.nn (fun a => a = p ∨ F a)) x3.pre rv2 pu
              obtain ⟨s4, x4⟩ := s3.set2 (i := j) (j := l) pu pw rv2' rv3
              have x13 := up (x2.trans x3)
              have k0 : Keep (NN F μ1 σ env) H1 (NN (fun a => a = p ∨ F a) μ3 σ env) H3 := fun a o na e0 => by
                obtain ⟨e1', n1⟩ := x13.nn F a o na e0
                have ne : a ≠ p := ne_of_none e0 n
                exact ⟨e1', fun h => h.elim (fun h => n1 (.inl h)) fun h => h.elim ne fun h => n1 (.inr h)⟩
              obtain ⟨s5, sub5⟩ := s4.adopt (i := i) (at_p (x2.trans x3)) ((dd.keep k0).keep (x4.nn _)) fp
              refine ⟨_, _, _, rfl, ?_⟩
              rw [List.set_comm _ _ hij, List.set_comm _ _ hil]
              refine q1 _ H3 μ3 s5 ⟨fun a o na e0 => ?_, x13.pre⟩
              obtain ⟨e1', n1⟩ := (x13.s.trans x4).keep a o na e0
              exact ⟨e1', fun h => (sub5 a h).elim (ne_of_none e0 n) n1⟩
            · exact q1.elim
        · exact q1.elim
    · exact q1.elim
  · exact q1.elim
end
end Q

namespace Q
open PySem PySem.Spec PyProof.Rows L2

/-- a def: how many parameters, how many names, its body -/
structure FD where
  n : Nat
  slots : Nat
  body : SS
abbrev Tab := String → Option FD
def fin : RS → R W
  | .ret w S => .ok w S
  | .next _ S => .ok (.d .none) S
  | .exc c _ S => .exc c S
  | _ => .stuck
def startQ (m : Nat) (ws : List W) : EnvQ := ws.map some ++ List.replicate (m - ws.length) none
def callQ (T : Tab) : Nat → CF
  | 0 => fun _ _ _ => .stuck
  | k + 1 => fun x ws S => match T x with
    | none => .stuck
    | some d => if ws.length = d.n ∧ W.plains ws = true then fin (d.body (callQ T k) (startQ d.slots ws) S) else .stuck
section
variable {P : Program} {w : World} {K : PySem.W.Frag} {mg : Str → Option Value} {base : Heap} {T : Tab} {k : Nat}
theorem plains_get : ∀ {ws : List W} {i : Nat} {u : W}, W.plains ws = true → ws[i]? = some u → u.plain = true
  | [], _, _, _, h => by simp at h
  | x :: xs, 0, u, p, h => by
    simp at h
    subst h
    simp only [W.plains, Bool.and_eq_true] at p
    exact p.1
  | x :: xs, i + 1, u, p, h => by
    simp only [W.plains, Bool.and_eq_true] at p
    exact plains_get p.2 (by simpa using h)
theorem startQ_get {m : Nat} {ws : List W} {i : Nat} {u : W} (h : (startQ m ws)[i]? = some (some u)) : ws[i]? = some u := by
  unfold startQ at h
  by_cases hi : i < ws.length
  · rw [List.getElem?_append_left (by simpa using hi), List.getElem?_map] at h
    cases e : ws[i]? with
    | none => rw [e] at h; cases h
    | some a => rw [e] at h; cases h; rfl
  · rw [List.getElem?_append_right (by simpa using hi), List.getElem?_replicate] at h
    split at h <;> cases h
theorem start_get {N : List Str} {vs : List V} {i : Nat} {v : V} (h : vs[i]? = some v) : (start N vs)[i]? = some (some v) := by
  unfold L2.start
  have hi : i < vs.length := (List.getElem?_eq_some_iff.mp h).1
  rw [List.getElem?_append_left (by simpa using hi), List.getElem?_map, h]
  rfl
/-- a def's body at its entry -/
theorem body_start {F : Addr → Prop} {N : List Str} {H : Hp} {S : Sto} {μ : List Addr} {vs : List V} {ws : List W} {Q : VK} {E : XK} {r : RS} (sr : SimR K mg F H S μ) (rv : RWs K mg H (NR F μ) μ vs ws) (pl : W.plains ws = true) (hN : vs.length ≤ N.length) :
    Sim K mg F (start N vs) H (startQ N.length ws) S μ ∧ (PostR K mg F H μ (fin r) Q E → PostS K mg (fun c d _ H => E c d H) F (start N vs) (startQ N.length ws) H μ r { nx := fun _ H' => Q .non H', rt := Q }) := by
  have no : ∀ i a, ¬ OwnAt (start N vs) (startQ N.length ws) i a := fun i a ⟨_, u, h, o⟩ => by
    have p := plains_get pl (startQ_get h)
    rw [fine_own o] at p
    cases p
  have mm : ∀ a, MM μ (start N vs) (startQ N.length ws) a ↔ a ∈ μ := fun a => ⟨fun h => h.elim id fun ⟨i, h⟩ => (no i a h).elim, .inl⟩
  have nn : ∀ a, NN F μ (start N vs) (startQ N.length ws) a → NR F μ a := fun a h => h.elim (fun h => .inl ((mm a).mp h)) .inr
  have sim : Sim K mg F (start N vs) H (startQ N.length ws) S μ := by
    refine ⟨?_, fun i u h => ?_, fun i u h => ?_, fun i j a h _ => (no i a h).elim, fun i a h => (no i a h).elim, sr.st.sub nn, sr.ftr, fun a f h => sr.fdis a f ((mm a).mp h)⟩
    · unfold L2.start startQ
      simp [rv.length]
    · obtain ⟨v, hv, r⟩ := rv.get (startQ_get h)
      exact ⟨v, start_get hv, RW.sub nn r⟩
    · unfold W.fine
      rw [plains_get pl (startQ_get h), Bool.true_or]
  refine ⟨sim, fun q => ?_⟩
  have back : ∀ {σ' : L2.St} {env' : EnvQ} {H' : Hp} {S' : Sto} {μ' : List Addr}, Sim K mg F σ' H' env' S' μ' → ExS (start N vs) (startQ N.length ws) H μ σ' env' H' μ' → SimR K mg F H' S' μ' ∧ ExR H μ H' μ' := fun s' x => by
    obtain ⟨sr', k'⟩ := s'.leave
    exact ⟨sr', ⟨fun a o na e => (x.keep.trans k') a o (fun h => na ((mm a).mp h)) e, x.pre⟩⟩
  cases r with
  | next e S' =>
    intro σ' H' μ' s' x
    obtain ⟨sr', x'⟩ := back s' x
    exact q .non H' μ' sr' x' (.d .non)
  | brk e S' => exact q.elim
  | cont e S' => exact q.elim
  | ret u S' =>
    intro v H' μ' sr' k' p' rv'
    exact q v H' μ' sr' ⟨fun a o na e => k' a o (fun h => na ((mm a).mp h)) e, p'⟩ rv'
  | exc c e S' =>
    intro C σ' H' μ' g s' x
    obtain ⟨sr', x'⟩ := back s' x
    exact q C H' μ' g sr' x'
  | stuck => exact q.elim
/-- a def of the text -/
structure DQ (K : PySem.W.Frag) (mg : Str → Option Value) (x : String) (params : Arguments) (body : List Stmt) (scope : Scope) (N ps : List Str) (f : Addr) (fd : FuncData) : Prop where
  F : FunD K (Str.ofString x) (Str.ofString x) params body scope [] [] f fd
  S : FnScope N ps scope
  g : mg (Str.ofString x) = some (.ref f)
  b : Binds K fd ps []
theorem fn_zero {x : String} {params : Arguments} {body : List Stmt} {scope : Scope} {N ps : List Str} {f : Addr} {fd : FuncData} (d : DQ K mg x params body scope N ps f fd) : FnQ P w K mg base (callQ T 0) 0 x ps.length :=
  ⟨f, fd, ps, ⟨fun vs H Q E h => h.1, fun A outer s H args us vs Q E hg hr he hb hv h => by
    obtain ⟨_, ws, S, μ, F, _, _, _, q⟩ := h
    exact q.elim⟩, d.g, d.F.kp, d.b, rfl⟩
theorem fn_succG {x : String} {params : Arguments} {body : List Stmt} {scope : Scope} {N ps : List Str} {f : Addr} {fd : FuncData} {D : FD} (d : DQ K mg x params body scope N ps f fd) (hT : T x = some D) (hn : D.n = ps.length) (hs : D.slots = N.length) (hl : ps.length ≤ N.length)
    (h : ∀ (cdv : Value) (A : Around) (outer : List Env) (s : Shared) (H : Hp) (E : XK), A.guards = some [] → Room k (A.deeper (envOfC (Str.ofString x) scope s.heap.objs.size f cdv)) →
      MSs (cxOf (L2.CX P w) P w K mg base N (Str.ofString x) scope f cdv A outer s H E) (callQ T k) (fun c d _ H => E c d H) body D.body) : FnG P w K mg base (L2.CX P w) (k + 1) f fd ps (SpQ K mg (callQ T (k + 1)) x ps.length) := by
  refine ok_G d.F d.S (fun vs H Q E h => h.1) fun cdv A outer s H vs Q E hg hr hsp => ⟨_, h cdv A outer s H E hg hr, ?_⟩
  obtain ⟨hlen, ws, S, μ, F, sr, rv, pl, q⟩ := hsp
  have e : callQ T (k + 1) x ws S = fin (D.body (callQ T k) (startQ D.slots ws) S) := by
    show (match T x with | none => R.stuck | some d => if ws.length = d.n ∧ W.plains ws = true then fin (d.body (callQ T k) (startQ d.slots ws) S) else .stuck) = _
    rw [hT]
    exact if_pos ⟨by rw [hn, ← hlen, rv.length], pl⟩
  rw [e, hs] at q
  obtain ⟨s1, q1⟩ := body_start (N := N) (Q := Q) (E := E) (r := D.body (callQ T k) (startQ N.length ws) S) sr rv pl (by omega)
  exact ⟨_, S, μ, F, s1, q1 q⟩
theorem fn_succ {x : String} {params : Arguments} {body : List Stmt} {scope : Scope} {N ps : List Str} {f : Addr} {fd : FuncData} {D : FD} (d : DQ K mg x params body scope N ps f fd) (hT : T x = some D) (hn : D.n = ps.length) (hs : D.slots = N.length) (hl : ps.length ≤ N.length)
    (h : ∀ (cdv : Value) (A : Around) (outer : List Env) (s : Shared) (H : Hp) (E : XK), A.guards = some [] → Room k (A.deeper (envOfC (Str.ofString x) scope s.heap.objs.size f cdv)) →
      MSs (cxOf (L2.CX P w) P w K mg base N (Str.ofString x) scope f cdv A outer s H E) (callQ T k) (fun c d _ H => E c d H) body D.body) : FnQ P w K mg base (callQ T (k + 1)) (k + 1) x ps.length :=
  ⟨f, fd, ps, fn_succG d hT hn hs hl h, d.g, d.F.kp, d.b, rfl⟩
theorem only_scr {H : Hp} {a : Addr} {xs : List V} (h : SqL K H a xs) : RdF K H (NR (fun _ => False) []) a xs := by
  rcases h with h | h
  · exact .inl ⟨fun z => z.elim (fun z => by cases z) id, h⟩
  · exact .inr (.inr h)
theorem law_sp {x : String} (law : ∀ ns : List Int, ns.length ≤ 63 → ∃ S', callQ T k x [.scr ns] [] = .ok (.d (.bool true)) S') (H : Hp) (a : Addr) (ns : List Int) (hl : ns.length ≤ 63) (hO : Only H) (hS : SqL K H a (ns.map V.int)) :
    SpQ K mg (callQ T k) x 1 [.ref a] H (fun v _ => v = .bl true) fun _ _ _ => False := by
  obtain ⟨S', e⟩ := law ns hl
  refine ⟨rfl, [.scr ns], [], [], fun _ => False, ⟨⟨rfl, .nil, fun n o h => by simp at h⟩, fun _ h => h.elim, fun _ h => h.elim⟩, .cons (.scr (only_scr hS)) .nil, rfl, ?_⟩
  rw [e]
  intro v H' μ' _ _ rv
  exact rw_bl rv
end
end Q

namespace Q
open PySem PySem.Spec PyProof.Rows L2

section
variable {cf : CF} {env : EnvQ} {S : Sto}
@[simp] theorem x_int (i : Int) : fInt i cf env S = .ok (.d (.int i)) S := rfl
@[simp] theorem x_bl (b : Bool) : fBl b cf env S = .ok (.d (.bool b)) S := rfl
@[simp] theorem x_non : fNon cf env S = .ok (.d .none) S := rfl
@[simp] theorem x_str (s : Str) : fStr s cf env S = .ok (.d (.str s)) S := rfl
@[simp] theorem x_var (i : Nat) : fVar i cf env S = (match env[i]? with | some (some w) => if w.plain then .ok w S else .stuck | _ => .stuck) := rfl
@[simp] theorem x_bin (g : G2) (a b : SE) : fBin g a b cf env S = (a cf env S).bind fun x S1 => (b cf env S1).bind fun y S2 => g x y S2 := rfl
@[simp] theorem x_isNone (a : SE) : fIsNone a cf env S = (a cf env S).bind fun x S1 => .ok (.d (.bool x.isNone)) S1 := rfl
@[simp] theorem x_notNone (a : SE) : fNotNone a cf env S = (a cf env S).bind fun x S1 => .ok (.d (.bool (!x.isNone))) S1 := rfl
@[simp] theorem x_cVal (a : SE) : cVal a cf env S = (a cf env S).bind fun x S1 => match x with | .d (.bool b) => .ok b S1 | _ => .stuck := rfl
@[simp] theorem x_cNot (a : ST) : cNot a cf env S = (a cf env S).bind fun b S1 => .ok (!b) S1 := rfl
@[simp] theorem x_cAnd (a b : ST) : cAnd a b cf env S = (a cf env S).bind fun x S1 => if x = true then b cf env S1 else .ok false S1 := rfl
@[simp] theorem x_cOr (a b : ST) : cOr a b cf env S = (a cf env S).bind fun x S1 => if x = true then .ok true S1 else b cf env S1 := rfl
@[simp] theorem x_and (a b : SE) : fAnd a b cf env S = (a cf env S).bind fun x S1 => match x with | .d (.bool c) => if c = true then b cf env S1 else .ok (.d (.bool false)) S1 | _ => .stuck := rfl
@[simp] theorem x_or (a b : SE) : fOr a b cf env S = (a cf env S).bind fun x S1 => match x with | .d (.bool c) => if c = true then .ok (.d (.bool true)) S1 else b cf env S1 | _ => .stuck := rfl
@[simp] theorem x_not (a : SE) : fNot a cf env S = (a cf env S).bind fun x S1 => match x with | .d (.bool c) => .ok (.d (.bool (!c))) S1 | _ => .stuck := rfl
@[simp] theorem x_neg (a : SE) : fNeg a cf env S = (a cf env S).bind fun x S1 => match x with | .d (.int i) => .ok (.d (.int (-i))) S1 | _ => .stuck := rfl
@[simp] theorem x_if (c : ST) (a b : SE) : fIf c a b cf env S = (c cf env S).bind fun x S1 => if x = true then a cf env S1 else b cf env S1 := rfl
@[simp] theorem x_nil : aNil cf env S = .ok [] S := rfl
@[simp] theorem x_cons (a : SE) (r : SA) : aCons a r cf env S = (a cf env S).bind fun x S1 => (r cf env S1).bind fun xs S2 => if x.plain then .ok (x :: xs) S2 else .stuck := rfl
@[simp] theorem x_one (a : SE) : aOne a cf env S = (a cf env S).bind fun x S1 => .ok [x] S1 := rfl
@[simp] theorem x_tup (a : SA) : fTup a cf env S = (a cf env S).bind fun ws S1 => if ws.length ≤ LIM then (match datas ws with | some ds => .ok (.d (.tuple ds)) S1 | none => .ok (.tw ws) S1) else .stuck := rfl
@[simp] theorem x_lst (a : SA) : fLst a cf env S = (a cf env S).bind fun ws S1 => if ws.length ≤ LIM then (match datas ws with | some ds => .ok (.d (.list ds)) S1 | none => .stuck) else .stuck := rfl
@[simp] theorem x_newL (a : SA) : fNewL a cf env S = (a cf env S).bind fun ws S1 => if ws.length ≤ LIM then (match datas ws with | some ds => .ok (.ref S1.length) (S1 ++ [.lst ds]) | none => .stuck) else .stuck := rfl
@[simp] theorem x_B (g : GN) (a : SA) : fB g a cf env S = (a cf env S).bind fun ws S1 => g ws S1 := rfl
@[simp] theorem x_callN (x : String) (n : Nat) (a : SA) : fCallN x n a cf env S = (a cf env S).bind fun ws S1 => arity n ws (cf x ws S1) := rfl
@[simp] theorem x_call0 (x : String) : fCall0 x cf env S = cf x [] S := rfl
@[simp] theorem x_isI (t : String) (a : SE) : fIsI t a cf env S = (a cf env S).bind fun x S1 => match x with | .d d => .ok (.d (.bool (isTy t d))) S1 | _ => .stuck := rfl
@[simp] theorem x_at (a b : SE) : fAt a b cf env S = (a cf env S).bind fun x S1 => if x.plain then (b cf env S1).bind fun y S2 => gAt x y S2 else .stuck := rfl
@[simp] theorem x_own (i : Nat) : fOwn i cf env S = (match env[i]? with | some (some (.own xs)) => .ok (.own xs) S | _ => .stuck) := rfl
@[simp] theorem x_atOwn (i : Nat) (b : SE) : fAtOwn i b cf env S = (match env[i]? with | some (some (.own xs)) => (b cf env S).bind fun y S2 => gAt (.own xs) y S2 | _ => .stuck) := rfl
@[simp] theorem x_chain (g g' : G2) (a b c : SE) : fChain g g' a b c cf env S = (a cf env S).bind fun x S1 => (b cf env S1).bind fun y S2 => (g x y S2).bind fun z S3 => match z with | .d (.bool k) => if k = true then (c cf env S3).bind fun w S4 => g' y w S4 else .ok (.d (.bool false)) S3 | _ => .stuck := rfl
@[simp] theorem x_oNone : oNone cf env S = .ok none S := rfl
@[simp] theorem x_oSome (a : SE) : oSome a cf env S = (a cf env S).bind fun x S1 => match x with | .d (.int i) => .ok (some i) S1 | _ => .stuck := rfl
@[simp] theorem x_sl (a : SE) (lo hi : SO) : fSl a lo hi cf env S = (a cf env S).bind fun x S1 => if x.plain then (lo cf env S1).bind fun l S2 => (hi cf env S2).bind fun u S3 => gSlice x l u S3 else .stuck := rfl
@[simp] theorem x_comp (vs : List Nat) (t : Tg) (it : SI) (c : ST) (f : SE) : fComp vs t it c f cf env S = if vs.all (notOwn env) then (it cf env S).bind fun ds S1 => (compL t (c cf) (f cf) (wipeE env vs) ds S1).bind fun xs S2 => if xs.length ≤ LIM then .ok (.d (.list xs)) S2 else .stuck else .stuck := rfl
@[simp] theorem x_yes : cYes cf env S = .ok true S := rfl
@[simp] theorem x_iSeq (f : SE) : iSeq f cf env S = (f cf env S).bind fun w S1 => match w with | .d (.list xs) => .ok xs S1 | .d (.tuple xs) => .ok xs S1 | .scr xs => .ok (xs.map PyData.int) S1 | _ => .stuck := rfl
@[simp] theorem x_range1 (a : SA) : iRange1 a cf env S = (a cf env S).bind fun ws S1 => match ws with | [.d (.int j)] => if inR j then .ok (rangeD 0 j.toNat) S1 else .stuck | _ => .stuck := rfl
@[simp] theorem x_range2 (a : SA) : iRange2 a cf env S = (a cf env S).bind fun ws S1 => match ws with | [.d (.int i), .d (.int j)] => if inR i && inR j then .ok (rangeD i (j - i).toNat) S1 else .stuck | _ => .stuck := rfl
@[simp] theorem y_next : sNext cf env S = .next env S := rfl
@[simp] theorem y_never : sNever cf env S = .stuck := rfl
@[simp] theorem y_brk : sBreak cf env S = .brk env S := rfl
@[simp] theorem y_cont : sCont cf env S = .cont env S := rfl
@[simp] theorem y_seq (a b : SS) : sSeq a b cf env S = (a cf env S).seq fun env' S' => b cf env' S' := rfl
@[simp] theorem y_set (i : Nat) (f : SE) : sSet i f cf env S = (f cf env S).then env fun w S' => if w.plain then .next (env.set i (some w)) S' else .stuck := rfl
@[simp] theorem y_new (i : Nat) (a : SA) : sNew i a cf env S = (a cf env S).then env fun ws S' => if ws.length ≤ LIM then (match datas ws with | some ds => .next (env.set i (some (.own ds))) S' | none => .stuck) else .stuck := rfl
@[simp] theorem y_app (i : Nat) (f : SE) : sApp i f cf env S = (match env[i]? with | some (some (.own xs)) => (f cf env S).then env (fun w S' => (match w with | .d x => if xs.length < LIM then .next (env.set i (some (.own (xs ++ [x])))) S' else .stuck | _ => .stuck)) | _ => .stuck) := rfl
@[simp] theorem y_freeze (i : Nat) : sFreeze i cf env S = (match env[i]? with | some (some (.own xs)) => .next (env.set i (some (.d (.list xs)))) S | _ => .stuck) := rfl
@[simp] theorem y_retN : sRetN cf env S = .ret (.d .none) S := rfl
@[simp] theorem y_retP (f : SE) : sRetP f cf env S = (f cf env S).then env fun w S' => if w.plain then .ret w S' else .stuck := rfl
@[simp] theorem y_retO (i : Nat) : sRetO i cf env S = (match env[i]? with | some (some (.own xs)) => .ret (.d (.list xs)) S | _ => .stuck) := rfl
@[simp] theorem y_expr (f : SE) : sExpr f cf env S = (f cf env S).then env fun _ S' => .next env S' := rfl
@[simp] theorem y_if (c : ST) (a b : SS) : sIf c a b cf env S = (c cf env S).then env fun k S' => if k = true then a cf env S' else b cf env S' := rfl
@[simp] theorem y_for (t : Tg) (it : SI) (body : SS) : sFor t it body cf env S = (it cf env S).then env fun ds S' => forL t (body cf) ds env S' := rfl
@[simp] theorem y_while (n : Nat) (c : ST) (body : SS) : sWhile n c body cf env S = whileL (c cf) (body cf) n env S := rfl
@[simp] theorem y_par (is : List Nat) (a : SA) : sPar is a cf env S = (a cf env S).then env fun ws S' => if W.plains ws then (match setW is ws env with | some env' => .next env' S' | none => .stuck) else .stuck := rfl
@[simp] theorem y_unp (is : List Nat) (f : SE) : sUnp is f cf env S = (f cf env S).then env fun w S' => match w with | .d (.tuple ds) => (match setAll is ds env with | some env' => .next env' S' | none => .stuck) | _ => .stuck := rfl
@[simp] theorem y_aug (i : Nat) (g : G2) (f : SE) : sAug i g f cf env S = (match env[i]? with | some (some w) => if w.plain then (f cf env S).then env fun u S1 => (g w u S1).then env fun z S2 => if z.plain then .next (env.set i (some z)) S2 else .stuck else .stuck | _ => .stuck) := rfl
@[simp] theorem z_d (x : D) : W.plain (.d x) = true := rfl
@[simp] theorem z_ref (n : Nat) : W.plain (.ref n) = true := rfl
@[simp] theorem z_scr (n : List Int) : W.plain (.scr n) = true := rfl
@[simp] theorem z_own (n : List D) : W.plain (.own n) = false := rfl
@[simp] theorem z_nil : W.plains [] = true := rfl
@[simp] theorem z_cons (w : W) (ws : List W) : W.plains (w :: ws) = (w.plain && W.plains ws) := rfl
@[simp] theorem z_datas0 : datas [] = some [] := rfl
@[simp] theorem z_datas1 (x : D) (ws : List W) : datas (.d x :: ws) = (datas ws).map (x :: ·) := rfl
@[simp] theorem z_datas2 (n : Nat) (ws : List W) : datas (.ref n :: ws) = none := rfl
@[simp] theorem z_set0 (env : EnvQ) : setW [] [] env = some env := rfl
@[simp] theorem z_set1 (i : Nat) (is : List Nat) (w : W) (ws : List W) (env : EnvQ) : setW (i :: is) (w :: ws) env = setW is ws (env.set i (some w)) := rfl
@[simp] theorem z_setA0 (env : EnvQ) : setAll [] [] env = some env := rfl
@[simp] theorem z_setA1 (i : Nat) (is : List Nat) (w : D) (ws : List D) (env : EnvQ) : setAll (i :: is) (w :: ws) env = setAll is ws (env.set i (some (.d w))) := rfl
@[simp] theorem z_name (i : Nat) (d : D) (env : EnvQ) : Tg.set (.name i) d env = some (env.set i (some (.d d))) := rfl
@[simp] theorem z_names (is : List Nat) (ds : List D) (env : EnvQ) : Tg.set (.names is) (.tuple ds) env = setAll is ds env := rfl
@[simp] theorem z_wipe0 : wipeE env [] = env := rfl
@[simp] theorem z_wipe1 (v : Nat) (vs : List Nat) : wipeE env (v :: vs) = (wipeE env vs).set v none := rfl
@[simp] theorem z_arity (n : Nat) (ws : List W) (r : R W) : arity n ws r = if ws.length = n ∧ W.plains ws = true then r else .stuck := rfl
@[simp] theorem g_add (i j : Int) : gAdd (.d (.int i)) (.d (.int j)) S = .ok (.d (.int (i + j))) S := rfl
@[simp] theorem g_sub (i j : Int) : gSub (.d (.int i)) (.d (.int j)) S = .ok (.d (.int (i - j))) S := rfl
@[simp] theorem g_mul (i j : Int) : gMul2 (.d (.int i)) (.d (.int j)) S = if sm i || sm j then .ok (.d (.int (i * j))) S else .stuck := rfl
@[simp] theorem g_mod (i j : Int) : gMod (.d (.int i)) (.d (.int j)) S = if 0 < j then .ok (.d (.int (i % j))) S else .stuck := rfl
@[simp] theorem g_div (i j : Int) : gDiv (.d (.int i)) (.d (.int j)) S = if 0 < j ∧ Nat.ble j.natAbs 1073741823 = true then .ok (.d (.int (i / j))) S else .stuck := rfl
@[simp] theorem g_pow (i j : Int) : gPow (.d (.int i)) (.d (.int j)) S = if 0 ≤ j ∧ j ≤ 1000000 ∧ i.natAbs < 2 ^ 64 then .ok (.d (.int (i ^ j.toNat))) S else .stuck := rfl
@[simp] theorem g_lt (i j : Int) : gLt (.d (.int i)) (.d (.int j)) S = .ok (.d (.bool (decide (i < j)))) S := rfl
@[simp] theorem g_le (i j : Int) : gLe (.d (.int i)) (.d (.int j)) S = .ok (.d (.bool (decide (i ≤ j)))) S := rfl
@[simp] theorem g_gt (i j : Int) : gGt (.d (.int i)) (.d (.int j)) S = .ok (.d (.bool (decide (j < i)))) S := rfl
@[simp] theorem g_ge (i j : Int) : gGe (.d (.int i)) (.d (.int j)) S = .ok (.d (.bool (decide (j ≤ i)))) S := rfl
@[simp] theorem g_lenT (xs : List D) : gLen [.d (.tuple xs)] S = .ok (.d (.int xs.length)) S := rfl
@[simp] theorem g_lenL (xs : List D) : gLen [.d (.list xs)] S = .ok (.d (.int xs.length)) S := rfl
@[simp] theorem g_tupL (xs : List D) : gTuple [.d (.list xs)] S = .ok (.d (.tuple xs)) S := rfl
@[simp] theorem g_tupT (xs : List D) : gTuple [.d (.tuple xs)] S = .ok (.d (.tuple xs)) S := rfl
@[simp] theorem g_tupO (xs : List D) : gTuple [.own xs] S = .ok (.d (.tuple xs)) S := rfl
@[simp] theorem g_max2 (i j : Int) : gMax2 [.d (.int i), .d (.int j)] S = .ok (.d (.int (if j > i then j else i))) S := rfl
@[simp] theorem g_min2 (i j : Int) : gMin2 [.d (.int i), .d (.int j)] S = .ok (.d (.int (if j < i then j else i))) S := rfl
@[simp] theorem g_repr (d : D) : gRepr [.d d] S = if okShow d then .ok (.d (.str d.shown)) S else .stuck := rfl
@[simp] theorem g_atT (xs : List D) (i : Int) : gAt (.d (.tuple xs)) (.d (.int i)) S = (match atI xs i with | some x => .ok (.d x) S | none => .stuck) := rfl
@[simp] theorem g_atL (xs : List D) (i : Int) : gAt (.d (.list xs)) (.d (.int i)) S = (match atI xs i with | some x => .ok (.d x) S | none => .stuck) := rfl
@[simp] theorem g_atO (xs : List D) (i : Int) : gAt (.own xs) (.d (.int i)) S = (match atI xs i with | some x => .ok (.d x) S | none => .stuck) := rfl
@[simp] theorem g_atR (n : Nat) (i : Int) : gAt (.ref n) (.d (.int i)) S = (match S[n]? with | some (.lst xs) => (match atI xs i with | some x => .ok (.d x) S | none => .stuck) | _ => .stuck) := rfl
@[simp] theorem g_atS (xs : List Int) (i : Int) : gAt (.scr xs) (.d (.int i)) S = (match atI xs i with | some x => .ok (.d (.int x)) S | none => .stuck) := rfl
@[simp] theorem g_eqI (i j : Int) : gEq (.d (.int i)) (.d (.int j)) S = .ok (.d (.bool (decide (i = j)))) S := by
  simp [gEq, okEq, PyData.canLay0, PyData.depth, PyData.eqv]
  rw [Bool.eq_iff_iff]; simp
@[simp] theorem g_neI (i j : Int) : gNe (.d (.int i)) (.d (.int j)) S = .ok (.d (.bool (!decide (i = j)))) S := by
  simp [gNe, okEq, PyData.canLay0, PyData.depth, PyData.eqv]
  rw [Bool.eq_iff_iff]; simp
@[simp] theorem g_neS (i j : Str) : gNe (.d (.str i)) (.d (.str j)) S = .ok (.d (.bool (!decide (i = j)))) S := rfl
@[simp] theorem g_eqS (i j : Str) : gEq (.d (.str i)) (.d (.str j)) S = .ok (.d (.bool (decide (i = j)))) S := rfl
@[simp] theorem g_all (xs : List D) : gAll [.d (.list xs)] S = (match bools xs with | some bs => .ok (.d (.bool (bs.all id))) S | none => .stuck) := rfl
@[simp] theorem g_any (xs : List D) : gAny [.d (.list xs)] S = (match bools xs with | some bs => .ok (.d (.bool (bs.any id))) S | none => .stuck) := rfl
@[simp] theorem g_sumL (xs : List D) : gSum [.d (.list xs)] S = (match intsOf xs with | some is => .ok (.d (.int is.sum)) S | none => .stuck) := rfl
@[simp] theorem g_sumT (xs : List D) : gSum [.d (.tuple xs)] S = (match intsOf xs with | some is => .ok (.d (.int is.sum)) S | none => .stuck) := rfl
@[simp] theorem g_slT (xs : List D) (lo hi : Option Int) : gSlice (.d (.tuple xs)) lo hi S = .ok (.d (.tuple (cutD xs lo hi))) S := rfl
@[simp] theorem g_slL (xs : List D) (lo hi : Option Int) : gSlice (.d (.list xs)) lo hi S = .ok (.d (.list (cutD xs lo hi))) S := rfl
@[simp] theorem g_slS (xs : List Int) (lo hi : Option Int) : gSlice (.scr xs) lo hi S = .ok (.d (.list ((cutD xs lo hi).map PyData.int))) S := rfl
@[simp] theorem fin_ret (w : W) : fin (.ret w S) = .ok w S := rfl
@[simp] theorem fin_next : fin (.next env S) = .ok (.d .none) S := rfl
@[simp] theorem fin_exc (c : String) : fin (.exc c env S) = .exc c S := rfl
@[simp] theorem calm_ok {α : Type} (a : α) : (R.ok a S).calm = .ok a S := rfl
@[simp] theorem ty_int (i : Int) : isTy "int" (.int i) = true := by simp [isTy, tyName]
@[simp] theorem ty_bool (i : Int) : isTy "bool" (.int i) = false := by simp [isTy, tyName]
@[simp] theorem ty_tup (xs : List D) : isTy "tuple" (.tuple xs) = true := by simp [isTy, tyName]
theorem y_setIx (o i f : SE) : sSetIx o i f cf env S = (f cf env S).then env fun w S1 => (o cf env S1).then env fun u S2 => (i cf env S2).then env fun k S3 => match w, u, k with
  | .d x, .ref n, .d (.int j) => (match S3[n]? with
    | some (.lst xs) => (match ixN xs.length j with
      | some m => .next env (S3.set n (.lst (xs.set m x)))
      | none => .stuck)
    | _ => .stuck)
  | _, _, _ => .stuck := rfl
end
theorem callQ_succ {T : Tab} {x : String} {d : FD} {k : Nat} {ws : List W} {S : Sto} (h : T x = some d) (hl : ws.length = d.n) (hp : W.plains ws = true) : callQ T (k + 1) x ws S = fin (d.body (callQ T k) (startQ d.slots ws) S) := by
  show (match T x with | none => R.stuck | some d => if ws.length = d.n ∧ W.plains ws = true then fin (d.body (callQ T k) (startQ d.slots ws) S) else .stuck) = _
  rw [h]
  exact if_pos ⟨hl, hp⟩
theorem sm_lt {i : Int} (h : 0 ≤ i) (h2 : i < 18446744073709551616) : sm i = true := by
  exact Nat.ble_eq_true_of_le (by omega)

theorem atI_nat {α : Type} (xs : List α) (i : Nat) : atI xs (i : Int) = xs[i]? := by
  simp [atI, ixN]
  by_cases h : i < xs.length
  · simp [h]
  · rw [List.getElem?_eq_none (by omega)]
    simp [h]
theorem inR_of {i : Int} (h : -4611686018427387904 < i) (h2 : i < 4611686018427387904) : inR i = true := by
  exact Nat.ble_eq_true_of_le (by omega)
theorem lim_of {n : Nat} (h : n ≤ 16777216) : n ≤ LIM := h
theorem lim_lt {n : Nat} (h : n < 16777216) : n < LIM := h
theorem compL_map {i : Nat} {f : EnvQ → Sto → R W} {env : EnvQ} {S : Sto} {c : EnvQ → Sto → R Bool} (g : D → D) : ∀ {ds : List D}, (∀ d ∈ ds, c (env.set i (some (.d d))) S = .ok true S) → (∀ d ∈ ds, f (env.set i (some (.d d))) S = .ok (.d (g d)) S) → compL (.name i) c f env ds S = .ok (ds.map g) S
  | [], _, _ => rfl
  | d :: ds, hc, h => by
    have e := compL_map g (ds := ds) (fun d hd => hc d (by simp [hd])) fun d hd => h d (by simp [hd])
    simp only [compL, z_name]
    rw [hc d (by simp)]
    simp [e, h d (by simp)]
theorem compL_filter {i : Nat} {f : EnvQ → Sto → R W} {env : EnvQ} {S : Sto} {c : EnvQ → Sto → R Bool} (p : D → Bool) (g : D → D) : ∀ {ds : List D}, (∀ d ∈ ds, c (env.set i (some (.d d))) S = .ok (p d) S) → (∀ d ∈ ds, p d = true → f (env.set i (some (.d d))) S = .ok (.d (g d)) S) → compL (.name i) c f env ds S = .ok ((ds.filter p).map g) S
  | [], _, _ => rfl
  | d :: ds, hc, h => by
    have e := compL_filter p g (ds := ds) (fun d hd => hc d (by simp [hd])) fun d hd => h d (by simp [hd])
    simp only [compL, z_name]
    rw [hc d (by simp)]
    cases hp : p d with
    | true =>
      rw [List.filter_cons_of_pos hp]
      simp [h d (by simp) hp, e]
    | false =>
      rw [List.filter_cons_of_neg (by simp [hp])]
      simp [e]
theorem compL_on {α : Type} {i : Nat} {f : EnvQ → Sto → R W} {env : EnvQ} {S : Sto} {c : EnvQ → Sto → R Bool} (q g : α → D) : ∀ {xs : List α}, (∀ x ∈ xs, c (env.set i (some (.d (q x)))) S = .ok true S) → (∀ x ∈ xs, f (env.set i (some (.d (q x)))) S = .ok (.d (g x)) S) → compL (.name i) c f env (xs.map q) S = .ok (xs.map g) S
  | [], _, _ => rfl
  | x :: xs, hc, h => by
    have e := compL_on q g (xs := xs) (fun d hd => hc d (by simp [hd])) fun d hd => h d (by simp [hd])
    simp only [compL, z_name, List.map_cons]
    rw [hc x (by simp)]
    simp [e, h x (by simp)]
theorem compL_onf {α : Type} {i : Nat} {f : EnvQ → Sto → R W} {env : EnvQ} {S : Sto} {c : EnvQ → Sto → R Bool} (q g : α → D) (p : α → Bool) : ∀ {xs : List α}, (∀ x ∈ xs, c (env.set i (some (.d (q x)))) S = .ok (p x) S) → (∀ x ∈ xs, p x = true → f (env.set i (some (.d (q x)))) S = .ok (.d (g x)) S) → compL (.name i) c f env (xs.map q) S = .ok ((xs.filter p).map g) S
  | [], _, _ => rfl
  | x :: xs, hc, h => by
    have e := compL_onf q g p (xs := xs) (fun d hd => hc d (by simp [hd])) fun d hd => h d (by simp [hd])
    simp only [compL, z_name, List.map_cons]
    rw [hc x (by simp)]
    cases hp : p x with
    | true =>
      rw [List.filter_cons_of_pos hp]
      simp [h x (by simp) hp, e]
    | false =>
      rw [List.filter_cons_of_neg (by simp [hp])]
      simp [e]
theorem rangeD_map (lo : Int) (n : Nat) : rangeD lo n = (List.range n).map fun k : Nat => PyData.int (lo + k) := rfl
/-- with a store that changes -/
theorem compL_st {i : Nat} {f : EnvQ → Sto → R W} {env : EnvQ} {c : EnvQ → Sto → R Bool} (I : Sto → Prop) (P : D → Prop) (hc : ∀ d S, I S → c (env.set i (some (.d d))) S = .ok true S) : ∀ {ds : List D} {S : Sto}, I S → (∀ d ∈ ds, ∀ S, I S → ∃ x S', f (env.set i (some (.d d))) S = .ok (.d x) S' ∧ I S' ∧ P x) → ∃ xs S', compL (.name i) c f env ds S = .ok xs S' ∧ I S' ∧ xs.length = ds.length ∧ ∀ x ∈ xs, P x
  | [], S, hI, _ => ⟨[], S, rfl, hI, rfl, by simp⟩
  | d :: ds, S, hI, h => by
    obtain ⟨x, S1, e1, I1, p1⟩ := h d (by simp) S hI
    obtain ⟨xs, S2, e2, I2, l2, p2⟩ := compL_st I P hc (ds := ds) I1 fun d hd => h d (by simp [hd])
    refine ⟨x :: xs, S2, ?_, I2, by simp [l2], fun y hy => ?_⟩
    · simp only [compL, z_name]
      rw [hc d S hI]
      simp [e1, e2]
    · rcases List.mem_cons.mp hy with rfl | hy
      · exact p1
      · exact p2 y hy

theorem forL_inv {t : Tg} {body : EnvQ → Sto → RS} (I : Nat → EnvQ → Sto → Prop) : ∀ {ds : List D} {n : Nat} {env : EnvQ} {S : Sto}, I n env S → (∀ i d env S, ds[i]? = some d → I (n + i) env S → ∃ env1 env2 S2, t.set d env = some env1 ∧ (body env1 S = .next env2 S2 ∨ body env1 S = .cont env2 S2) ∧ I (n + i + 1) env2 S2) → ∃ env' S', forL t body ds env S = .next env' S' ∧ I (n + ds.length) env' S'
  | [], n, env, S, h, _ => ⟨env, S, rfl, by simpa using h⟩
  | d :: ds, n, env, S, h, st => by
    obtain ⟨env1, env2, S2, e1, e2, i2⟩ := st 0 d env S rfl (by simpa using h)
    obtain ⟨env', S', e3, i3⟩ := forL_inv I (ds := ds) (n := n + 1) (env := env2) (S := S2) (by simpa using i2) fun i d env S hd hi => by
      have := st (i + 1) d env S (by simpa using hd) (by rw [show n + (i + 1) = n + 1 + i by omega]; exact hi)
      rw [show n + (i + 1) + 1 = n + 1 + i + 1 by omega] at this
      exact this
    refine ⟨env', S', ?_, by rw [show n + (d :: ds).length = n + 1 + ds.length by simp; omega]; exact i3⟩
    simp only [forL, e1]
    rcases e2 with e2 | e2 <;> rw [e2] <;> exact e3
theorem forL_inv0 {t : Tg} {body : EnvQ → Sto → RS} (I : Nat → EnvQ → Sto → Prop) {ds : List D} {env : EnvQ} {S : Sto} (h : I 0 env S) (st : ∀ i d env S, ds[i]? = some d → I i env S → ∃ env1 env2 S2, t.set d env = some env1 ∧ (body env1 S = .next env2 S2 ∨ body env1 S = .cont env2 S2) ∧ I (i + 1) env2 S2) : ∃ env' S', forL t body ds env S = .next env' S' ∧ I ds.length env' S' := by
  have := forL_inv I (n := 0) h fun i d env S hd hi => by
    have := st i d env S hd (by simpa using hi)
    simpa using this
  simpa using this
/-- each turn ends well -/
theorem forL_all {t : Tg} {body : EnvQ → Sto → RS} (I : EnvQ → Sto → Prop) {ds : List D} {env : EnvQ} {S : Sto} (h : I env S) (st : ∀ d ∈ ds, ∀ env S, I env S → ∃ env1 env2 S2, t.set d env = some env1 ∧ (body env1 S = .next env2 S2 ∨ body env1 S = .cont env2 S2) ∧ I env2 S2) : ∃ env' S', forL t body ds env S = .next env' S' ∧ I env' S' :=
  forL_inv (fun _ => I) (n := 0) h fun i d env S hd hi => st d (List.mem_of_getElem? hd) env S hi
theorem rangeD_mem {lo : Int} {n : Nat} {d : D} (h : d ∈ rangeD lo n) : ∃ i : Nat, i < n ∧ d = .int (lo + i) := by
  simp only [rangeD, List.mem_map, List.mem_range] at h
  obtain ⟨k, hk, rfl⟩ := h
  exact ⟨k, hk, rfl⟩
@[simp] theorem intsOf_map : ∀ (xs : List Int), intsOf (xs.map PyData.int) = some xs
  | [] => rfl
  | x :: xs => by simp [intsOf, intsOf_map xs]
theorem bools_on {α : Type} {g : α → D} (p : α → Bool) : ∀ {xs : List α}, (∀ x ∈ xs, g x = .bool (p x)) → bools (xs.map g) = some (xs.map p)
  | [], _ => rfl
  | x :: xs, h => by
    have e := bools_on p (xs := xs) fun y hy => h y (by simp [hy])
    simp [bools, h x (by simp), e]
theorem intsOf_on {α : Type} {g : α → D} (p : α → Int) : ∀ {xs : List α}, (∀ x ∈ xs, g x = .int (p x)) → intsOf (xs.map g) = some (xs.map p)
  | [], _ => rfl
  | x :: xs, h => by
    have e := intsOf_on p (xs := xs) fun y hy => h y (by simp [hy])
    simp [intsOf, h x (by simp), e]
@[simp] theorem bools_map : ∀ (xs : List Bool), bools (xs.map PyData.bool) = some xs
  | [] => rfl
  | x :: xs => by simp [bools, bools_map xs]

structure Sh (n k : Nat) (d : D) : Prop where
  sw : d.showable = true
  nd : d.hasDict = false
  dp : d.depth ≤ k
  ln : d.shown.length ≤ n
theorem Sh.mono {n k m l : Nat} {d : D} (h : Sh n k d) (h1 : n ≤ m) (h2 : k ≤ l) : Sh m l d := ⟨h.sw, h.nd, Nat.le_trans h.dp h2, Nat.le_trans h.ln h1⟩
theorem Sh.ok {n k : Nat} {d : D} (h : Sh n k d) (hk : k ≤ 60) (hn : n ≤ 16777216) : okShow d = true := by
  have h1 := h.dp
  have h2 := h.ln
  simp [okShow, h.sw, h.nd]
  exact ⟨by omega, by show _ ≤ 16777216; omega⟩
theorem sh_int {i : Int} (h : i.natAbs < 10 ^ 12) : Sh 13 0 (.int i) := by
  refine ⟨?_, rfl, Nat.le_refl _, ?_⟩
  · simp only [PyData.showable, decide_eq_true_eq]
    by_cases h0 : i.natAbs = 0
    · rw [h0]; decide
    · rw [Nat.log2_lt h0]
      exact Nat.lt_of_lt_of_le h (by decide)
  · exact PyData.shown_int_le h
theorem sh_none : Sh 13 0 .none := ⟨rfl, rfl, Nat.le_refl _, by decide⟩
theorem sh_bool (b : Bool) : Sh 13 0 (.bool b) := by
  cases b <;> exact ⟨rfl, rfl, Nat.le_refl _, by decide⟩
theorem sh_all {n k : Nat} : ∀ {xs : List D}, (∀ x ∈ xs, Sh n k x) → PyData.showableAll xs = true ∧ PyData.hasDictAll xs = false ∧ PyData.depthAll xs ≤ k ∧ ((PyData.shownAll xs).map (·.length)).sum + 2 * (PyData.shownAll xs).length ≤ xs.length * (n + 2)
  | [], _ => by simp [PyData.showableAll, PyData.hasDictAll, PyData.depthAll, PyData.shownAll]
  | x :: xs, h => by
    obtain ⟨h1, h2, h3, h4⟩ := sh_all (xs := xs) fun y hy => h y (by simp [hy])
    have hx := h x (by simp)
    refine ⟨by simp [PyData.showableAll, hx.sw, h1], by simp [PyData.hasDictAll, hx.nd, h2], by have := hx.dp; simp only [PyData.depthAll]; omega, ?_⟩
    have := hx.ln
    simp only [PyData.shownAll, List.map_cons, List.sum_cons, List.length_cons, Nat.add_mul]
    omega
theorem sh_tup {n k : Nat} {xs : List D} (h : ∀ x ∈ xs, Sh n k x) : Sh (xs.length * (n + 2) + 3) (k + 1) (.tuple xs) := by
  obtain ⟨h1, h2, h3, h4⟩ := sh_all h
  refine ⟨by simp [PyData.showable, h1], by simp [PyData.hasDict, h2], by simp only [PyData.depth]; omega, ?_⟩
  have := tupleText_len_le (PyData.shownAll xs)
  simp only [PyData.shown]
  omega
theorem sh_lst {n k : Nat} {xs : List D} (h : ∀ x ∈ xs, Sh n k x) : Sh (xs.length * (n + 2) + 3) (k + 1) (.list xs) := by
  obtain ⟨h1, h2, h3, h4⟩ := sh_all h
  refine ⟨by simp [PyData.showable, h1], by simp [PyData.hasDict, h2], by simp only [PyData.depth]; omega, ?_⟩
  have := listText_len_le (PyData.shownAll xs)
  simp only [PyData.shown]
  omega

def PenOk (S : Sto) (n : Nat) : Prop := ∃ a b c : Int, S[n]? = some (.lst [.int a, .int b, .int c]) ∧ 0 ≤ a ∧ 0 ≤ b ∧ b < 2147483648
def FDraw : SS := (sSeq (sIf (cVal (fBin gGt (fAt (fVar 0) (fInt 0)) (fInt 0)))
  (sSeq (sSet 2 (fBin gMod (fAt (fVar 0) (fInt 0)) (fVar 1)))
  (sSeq (sSetIx (fVar 0) (fInt 0) (fBin gDiv (fAt (fVar 0) (fInt 0)) (fVar 1)))
  (sRetP (fVar 2))))
  sNext)
  (sSeq (sSetIx (fVar 0) (fInt 2) (fBin gAdd (fAt (fVar 0) (fInt 2)) (fInt 1)))
  (sSeq (sSetIx (fVar 0) (fInt 1) (fBin gMod (fBin gAdd (fBin gAdd (fBin gMul2 (fAt (fVar 0) (fInt 1)) (fInt 48271)) (fBin gMul2 (fInt 1013) (fAt (fVar 0) (fInt 2)))) (fInt 11)) (fInt 2147483647)))
  (sSeq (sSet 3 (fBin gMod (fBin gAdd (fBin gAdd (fBin gMul2 (fAt (fVar 0) (fInt 1)) (fAt (fVar 0) (fInt 1))) (fBin gMul2 (fInt 40692) (fAt (fVar 0) (fInt 1)))) (fInt 7)) (fInt 2147483629)))
  (sRetP (fBin gMod (fBin gDiv (fBin gMod (fBin gMul2 (fVar 3) (fInt 69621)) (fInt 2147483647)) (fInt 16)) (fVar 1)))))))
theorem draw_spec {T : Tab} {k n : Nat} {m : Int} {S : Sto} (hT : T "_law_draw" = some ⟨2, 4, FDraw⟩) (h : PenOk S n) (h0 : 0 < m) (hm : m < 1073741824) : ∃ r S', callQ T (k + 1) "_law_draw" [.ref n, .d (.int m)] S = .ok (.d (.int r)) S' ∧ 0 ≤ r ∧ r < m ∧ PenOk S' n ∧ ∃ o, S' = S.set n o := by
  obtain ⟨a, b, c, e, ha, hb, hb2⟩ := h
  have hl : n < S.length := (List.getElem?_eq_some_iff.mp e).1
  rw [callQ_succ hT rfl rfl]
  by_cases h1 : 0 < a
  · refine ⟨a % m, S.set n (.lst [.int (a / m), .int b, .int c]), ?_, Int.emod_nonneg _ (by omega), Int.emod_lt_of_pos _ h0, ⟨a / m, b, c, by simp [hl], Int.ediv_nonneg ha (by omega), hb, hb2⟩, _, rfl⟩
    have hm' : Nat.ble m.natAbs 1073741823 = true := Nat.ble_eq_true_of_le (by omega)
    simp [FDraw, startQ, y_setIx, e, h1, h0, hm', atI, ixN, -Nat.ble_eq]
  · have hb' : 0 ≤ (b * 48271 + 1013 * (c + 1) + 11) % 2147483647 ∧ (b * 48271 + 1013 * (c + 1) + 11) % 2147483647 < 2147483647 := ⟨Int.emod_nonneg _ (by omega), Int.emod_lt_of_pos _ (by omega)⟩
    generalize hB : (b * 48271 + 1013 * (c + 1) + 11) % 2147483647 = B at hb'
    have hs : sm B = true := sm_lt hb'.1 (by omega)
    refine ⟨(B * B + 40692 * B + 7) % 2147483629 * 69621 % 2147483647 / 16 % m, S.set n (.lst [.int a, .int B, .int (c + 1)]), ?_, Int.emod_nonneg _ (by omega), Int.emod_lt_of_pos _ h0, ⟨a, B, c + 1, by simp [hl], ha, hb'.1, by omega⟩, _, rfl⟩
    have s1 : sm 48271 = true := by decide
    have s2 : sm 1013 = true := by decide
    have s3 : sm 40692 = true := by decide
    have s4 : sm 69621 = true := by decide
    have hg : ∀ o : O, (S.set n o)[n]? = some o := fun o => by simp [hl]
    simp [FDraw, startQ, y_setIx, e, h1, h0, hm, hg, atI, ixN, hB, hs, s1, s2, s3, s4]
end Q

namespace Q
open PySem PySem.Spec PyProof.Rows L2
def F_is_whole : SS := (sRetP (fAnd (fIsI "int" (fVar 0)) (fNot (fIsI "bool" (fVar 0)))))
def F_is_among : SS := (sRetP (fAnd (fCallN "is_whole" 1 (aCons (fVar 0) aNil)) (fChain gLe gLe (fVar 1) (fVar 0) (fVar 2))))
def F_is_row : SS := (sRetP (fAnd (fIsI "tuple" (fVar 0)) (fChain gLe gLe (fVar 1) (fB gLen (aCons (fVar 0) aNil)) (fVar 2))))
def C_is_tune_1 : SE := (fCallN "is_among" 3 (aCons (fVar 1) (aCons (fInt 1) (aCons (fInt 12) aNil))))
def F_is_tune : SS := (sRetP (fAnd (fCallN "is_row" 3 (aCons (fVar 0) (aCons (fInt 1) (aCons (fInt 8) aNil)))) (fB gAll (aCons (fComp [1] (.name 1) (iSeq (fVar 0)) cYes C_is_tune_1) aNil))))
def F_need_tune : SS := (sIf (cNot (cVal (fCallN "is_tune" 1 (aCons (fVar 0) aNil))))
  sNever
  sNext)
def C_begins_of_1 : SE := (fB gSum (aCons (fSl (fVar 0) oNone (oSome (fVar 1))) aNil))
def F_begins_of : SS := (sRetP (fComp [1] (.name 1) (iRange1 (aCons (fB gLen (aCons (fVar 0) aNil)) aNil)) cYes C_begins_of_1))
def D_bar_at_1 : ST := (cVal (fBin gLe (fVar 4) (fVar 2)))
def C_bar_at_2 : SE := (fVar 4)
def F_bar_at : SS := (sSeq (sExpr (fCallN "need_tune" 1 (aCons (fVar 0) aNil)))
  (sSeq (sIf (cOr (cNot (cVal (fCallN "is_whole" 1 (aCons (fVar 1) aNil)))) (cVal (fBin gLt (fVar 1) (fInt 0))))
  sNever
  sNext)
  (sSeq (sSet 2 (fBin gMod (fVar 1) (fB gSum (aCons (fVar 0) aNil))))
  (sSeq (sSet 3 (fBin gSub (fB gLen (aCons (fComp [4] (.name 4) (iSeq (fCallN "begins_of" 1 (aCons (fVar 0) aNil))) D_bar_at_1 C_bar_at_2) aNil)) (fInt 1)))
  (sRetP (fTup (aCons (fVar 3) (aCons (fBin gSub (fVar 2) (fAt (fCallN "begins_of" 1 (aCons (fVar 0) aNil)) (fVar 3))) aNil))))))))
def F__law_cell_at : SS := (sSeq (sIf (cVal (fBin gLt (fVar 1) (fB gLen (aCons (fVar 0) aNil))))
  (sRetP (fAt (fVar 0) (fVar 1)))
  sNext)
  (sRetP (fInt 0)))
def F__law_pen : SS := (sRetP (fNewL (aCons (fB gMax2 (aCons (fInt 0) (aCons (fBin gSub (fVar 0) (fBin gPow (fInt 10) (fInt 18))) aNil))) (aCons (fBin gAdd (fBin gMod (fVar 0) (fInt 2147483629)) (fInt 1)) (aCons (fInt 0) aNil)))))
def F__law_draw : SS := (sSeq (sIf (cVal (fBin gGt (fAt (fVar 0) (fInt 0)) (fInt 0)))
  (sSeq (sSet 2 (fBin gMod (fAt (fVar 0) (fInt 0)) (fVar 1)))
  (sSeq (sSetIx (fVar 0) (fInt 0) (fBin gDiv (fAt (fVar 0) (fInt 0)) (fVar 1)))
  (sRetP (fVar 2))))
  sNext)
  (sSeq (sSetIx (fVar 0) (fInt 2) (fBin gAdd (fAt (fVar 0) (fInt 2)) (fInt 1)))
  (sSeq (sSetIx (fVar 0) (fInt 1) (fBin gMod (fBin gAdd (fBin gAdd (fBin gMul2 (fAt (fVar 0) (fInt 1)) (fInt 48271)) (fBin gMul2 (fInt 1013) (fAt (fVar 0) (fInt 2)))) (fInt 11)) (fInt 2147483647)))
  (sSeq (sSet 3 (fBin gMod (fBin gAdd (fBin gAdd (fBin gMul2 (fAt (fVar 0) (fInt 1)) (fAt (fVar 0) (fInt 1))) (fBin gMul2 (fInt 40692) (fAt (fVar 0) (fInt 1)))) (fInt 7)) (fInt 2147483629)))
  (sRetP (fBin gMod (fBin gDiv (fBin gMod (fBin gMul2 (fVar 3) (fInt 69621)) (fInt 2147483647)) (fInt 16)) (fVar 1)))))))
def F__law_pick : SS := (sRetP (fAt (fVar 1) (fCallN "_law_draw" 2 (aCons (fVar 0) (aCons (fB gLen (aCons (fVar 1) aNil)) aNil)))))
def C__law_tune_1 : SE := (fBin gAdd (fInt 1) (fCallN "_law_draw" 2 (aCons (fVar 0) (aCons (fVar 1) aNil))))
def F__law_tune : SS := (sSeq (sSet 1 (fCallN "_law_pick" 2 (aCons (fVar 0) (aCons (fLst (aCons (fInt 3) (aCons (fInt 5) (aCons (fInt 12) aNil)))) aNil))))
  (sRetP (fB gTuple (aCons (fComp [2] (.name 2) (iRange1 (aCons (fBin gAdd (fInt 1) (fCallN "_law_draw" 2 (aCons (fVar 0) (aCons (fCallN "_law_pick" 2 (aCons (fVar 0) (aCons (fLst (aCons (fInt 2) (aCons (fInt 4) (aCons (fInt 8) aNil)))) aNil))) aNil)))) aNil)) cYes C__law_tune_1) aNil))))
def B__law_walk_1 : SS := (sSeq (sApp 2 (fTup (aCons (fVar 3) (aCons (fVar 4) aNil))))
  (sSeq (sSet 4 (fBin gAdd (fVar 4) (fInt 1)))
  (sIf (cVal (fBin gEq (fVar 4) (fAt (fVar 0) (fVar 3))))
  (sPar [3, 4] (aCons (fBin gMod (fBin gAdd (fVar 3) (fInt 1)) (fB gLen (aCons (fVar 0) aNil))) (aCons (fInt 0) aNil)))
  sNext)))
def F__law_walk : SS := (sSeq (sParO3a 2 3 4 aNil (fInt 0) (fInt 0))
  (sSeq (sFor (.name 5) (iRange1 (aCons (fVar 1) aNil))
  B__law_walk_1)
  (sRetO 2)))
def C_law_1 : SE := (fCallN "bar_at" 2 (aCons (fVar 3) (aCons (fVar 9) aNil)))
def B_law_2 : SS := (sIf (cVal (fBin gNe (fB gRepr (aCons (fComp [9] (.name 9) (iRange1 (aCons (fBin gMul2 (fInt 3) (fVar 5)) aNil)) cYes C_law_1) aNil)) (fB gRepr (aCons (fVar 6) aNil))))
  (sRetP (fBl false))
  sNext)
def B_law_3 : SS := (sIf (cVal (fBin gNe (fB gRepr (aCons (fCallN "bar_at" 2 (aCons (fVar 3) (aCons (fVar 8) aNil))) aNil)) (fB gRepr (aCons (fAt (fVar 6) (fBin gMod (fVar 8) (fVar 5))) aNil))))
  (sRetP (fBl false))
  sNext)
def B_law_4 : SS := (sSeq (sPar [4, 5] (aCons (fB gRepr (aCons (fVar 3) aNil)) (aCons (fB gSum (aCons (fVar 3) aNil)) aNil)))
  (sSeq (sSet 6 (fCallN "_law_walk" 2 (aCons (fVar 3) (aCons (fBin gMul2 (fInt 3) (fVar 5)) aNil))))
  (sSeq (sFor (.name 7) (iRange1 (aCons (fInt 2) aNil))
  B_law_2)
  (sSeq (sFor (.name 8) (iSeq (fLst (aCons (fBin gPow (fInt 10) (fInt 11)) (aCons (fBin gAdd (fBin gAdd (fBin gPow (fInt 10) (fInt 11)) (fInt 1)) (fCallN "_law_draw" 2 (aCons (fVar 2) (aCons (fBin gPow (fInt 10) (fInt 6)) aNil)))) (aCons (fBin gSub (fBin gPow (fInt 10) (fInt 12)) (fInt 1)) aNil)))))
  B_law_3)
  (sIf (cVal (fBin gNe (fB gRepr (aCons (fVar 3) aNil)) (fVar 4)))
  (sRetP (fBl false))
  sNext)))))
def B_law_5 : SS := (sSeq (sSet 2 (fCallN "_law_pen" 1 (aCons (fCallN "_law_cell_at" 2 (aCons (fVar 0) (aCons (fVar 1) aNil))) aNil)))
  (sFor (.name 3) (iSeq (fLst (aCons (fCallN "_law_tune" 1 (aCons (fVar 2) aNil)) (aCons (fBin gMul2 (fTup (aCons (fInt 12) aNil)) (fInt 8)) (aCons (fTup (aCons (fInt 1) aNil)) (aCons (fTup (aCons (fInt 1) (aCons (fInt 12) (aCons (fInt 1) aNil)))) aNil))))))
  B_law_4))
def F_law : SS := (sSeq (sFor (.name 1) (iRange1 (aCons (fB gMax2 (aCons (fInt 1) (aCons (fB gMin2 (aCons (fB gLen (aCons (fVar 0) aNil)) (aCons (fInt 3) aNil))) aNil))) aNil))
  B_law_5)
  (sRetP (fBl true)))
def T : Tab := fun x => ([("is_whole", ⟨1, 1, F_is_whole⟩),
  ("is_among", ⟨3, 3, F_is_among⟩),
  ("is_row", ⟨3, 3, F_is_row⟩),
  ("is_tune", ⟨1, 2, F_is_tune⟩),
  ("need_tune", ⟨1, 1, F_need_tune⟩),
  ("begins_of", ⟨1, 2, F_begins_of⟩),
  ("bar_at", ⟨2, 5, F_bar_at⟩),
  ("_law_cell_at", ⟨2, 2, F__law_cell_at⟩),
  ("_law_pen", ⟨1, 1, F__law_pen⟩),
  ("_law_draw", ⟨2, 4, F__law_draw⟩),
  ("_law_pick", ⟨2, 2, F__law_pick⟩),
  ("_law_tune", ⟨1, 3, F__law_tune⟩),
  ("_law_walk", ⟨2, 6, F__law_walk⟩),
  ("law", ⟨1, 10, F_law⟩)] : List (String × FD)).lookup x
theorem T_is_whole : T "is_whole" = some ⟨1, 1, F_is_whole⟩ := by simp [T, List.lookup]
theorem T_is_among : T "is_among" = some ⟨3, 3, F_is_among⟩ := by simp [T, List.lookup]
theorem T_is_row : T "is_row" = some ⟨3, 3, F_is_row⟩ := by simp [T, List.lookup]
theorem T_is_tune : T "is_tune" = some ⟨1, 2, F_is_tune⟩ := by simp [T, List.lookup]
theorem T_need_tune : T "need_tune" = some ⟨1, 1, F_need_tune⟩ := by simp [T, List.lookup]
theorem T_begins_of : T "begins_of" = some ⟨1, 2, F_begins_of⟩ := by simp [T, List.lookup]
theorem T_bar_at : T "bar_at" = some ⟨2, 5, F_bar_at⟩ := by simp [T, List.lookup]
theorem T__law_cell_at : T "_law_cell_at" = some ⟨2, 2, F__law_cell_at⟩ := by simp [T, List.lookup]
theorem T__law_pen : T "_law_pen" = some ⟨1, 1, F__law_pen⟩ := by simp [T, List.lookup]
theorem T__law_draw : T "_law_draw" = some ⟨2, 4, F__law_draw⟩ := by simp [T, List.lookup]
theorem T__law_pick : T "_law_pick" = some ⟨2, 2, F__law_pick⟩ := by simp [T, List.lookup]
theorem T__law_tune : T "_law_tune" = some ⟨1, 3, F__law_tune⟩ := by simp [T, List.lookup]
theorem T__law_walk : T "_law_walk" = some ⟨2, 6, F__law_walk⟩ := by simp [T, List.lookup]
theorem T_law : T "law" = some ⟨1, 10, F_law⟩ := by simp [T, List.lookup]
end Q

namespace Q
open PySem PySem.Spec L2
def IsTune (ts : List Int) : Prop := 1 ≤ ts.length ∧ ts.length ≤ 8 ∧ ∀ t ∈ ts, 1 ≤ t ∧ t ≤ 12
def pre (ts : List Int) (j : Nat) : Int := (ts.take j).sum
theorem pre_succ {ts : List Int} {j : Nat} (h : j < ts.length) : pre ts (j + 1) = pre ts j + ts[j] := by
  unfold pre
  rw [List.take_add_one, List.getElem?_eq_getElem h]
  simp only [Option.toList_some, List.sum_append, List.sum_cons, List.sum_nil, Int.add_zero]
theorem pre_mono {ts : List Int} (hp : ∀ t ∈ ts, 1 ≤ t) : ∀ {i j : Nat}, i ≤ j → j ≤ ts.length → pre ts i ≤ pre ts j
  | i, 0, h, _ => by have : i = 0 := by omega
                     subst this; exact Int.le_refl _
  | i, j + 1, h, hl => by
    rcases Nat.lt_or_ge i (j + 1) with q | q
    · have := pre_mono hp (i := i) (j := j) (by omega) (by omega)
      rw [pre_succ (by omega)]
      have := hp ts[j] (List.getElem_mem _)
      omega
    · have : i = j + 1 := by omega
      subst this; exact Int.le_refl _
theorem pre_len (ts : List Int) : pre ts ts.length = ts.sum := by simp [pre]
theorem pre_zero (ts : List Int) : pre ts 0 = 0 := by simp [pre]
/-- a place of a beat -/
structure At (ts : List Int) (left : Int) (b : Nat) (a : Int) : Prop where
  hb : b < ts.length
  h0 : 0 ≤ a
  h1 : a < ts[b]
  e : pre ts b + a = left
theorem filter_lt (b : Nat) : ∀ n : Nat, b < n → ((List.range n).filter fun j => decide (j ≤ b)).length = b + 1
  | 0, h => by omega
  | n + 1, h => by
    rw [List.range_succ, List.filter_append, List.length_append]
    rcases Nat.lt_or_ge b n with q | q
    · rw [filter_lt b n q]; simp; omega
    · have : b = n := by omega
      subst this
      have : ((List.range b).filter fun j => decide (j ≤ b)) = List.range b := List.filter_eq_self.mpr fun x hx => by simp at hx ⊢; omega
      rw [this]; simp
theorem At.count {ts : List Int} {left : Int} {b : Nat} {a : Int} (hp : ∀ t ∈ ts, 1 ≤ t) (h : At ts left b a) : ((List.range ts.length).filter fun j => decide (pre ts j ≤ left)).length = b + 1 := by
  rw [← filter_lt b ts.length h.hb]
  congr 1
  apply List.filter_congr
  intro j hj
  have hj : j < ts.length := by simpa using hj
  have := h.e; have := h.h0; have := h.h1
  rw [decide_eq_decide]
  constructor
  · intro hle
    apply Classical.byContradiction; intro hn
    have h2 := pre_mono hp (i := b + 1) (j := j) (by omega) (by omega)
    rw [pre_succ h.hb] at h2
    omega
  · intro hle
    have h2 := pre_mono hp (i := j) (j := b) hle (by have := h.hb; omega)
    omega
def wk (ts : List Int) : Nat → Nat × Int
  | 0 => (0, 0)
  | i + 1 => if (wk ts i).2 + 1 = ts.getD (wk ts i).1 0 then (((wk ts i).1 + 1) % ts.length, 0) else ((wk ts i).1, (wk ts i).2 + 1)
theorem sum_pos {ts : List Int} (h : IsTune ts) : 0 < ts.sum := by
  have h1 := pre_mono (fun t ht => (h.2.2 t ht).1) (i := 1) (j := ts.length) h.1 (Nat.le_refl _)
  rw [pre_len, pre_succ (by have := h.1; omega), pre_zero] at h1
  have := h.2.2 (ts[0]'(by have := h.1; omega)) (List.getElem_mem _)
  omega
theorem sum_le : ∀ {ts : List Int}, (∀ t ∈ ts, 1 ≤ t ∧ t ≤ 12) → ts.sum ≤ 12 * (ts.length : Int)
  | [], _ => by simp
  | t :: ts, h => by
    have := sum_le (ts := ts) fun x hx => h x (by simp [hx])
    have := (h t (by simp)).2
    simp only [List.sum_cons, List.length_cons]
    omega
theorem wk_at {ts : List Int} (h : IsTune ts) : ∀ i : Nat, At ts ((i : Int) % ts.sum) (wk ts i).1 (wk ts i).2
  | 0 => by
    have hl := h.1
    refine ⟨by simp [wk]; omega, by simp [wk], ?_, by simp [wk, pre_zero]⟩
    have := h.2.2 (ts[0]'(by omega)) (List.getElem_mem _)
    simp only [wk]
    omega
  | i + 1 => by
    obtain ⟨hb, h0, h1, e⟩ := wk_at h i
    have hp := sum_pos h
    have hp1 : ∀ t ∈ ts, 1 ≤ t := fun t ht => (h.2.2 t ht).1
    have e2 := pre_succ hb
    have m := pre_mono hp1 (i := (wk ts i).1 + 1) (j := ts.length) (by omega) (Nat.le_refl _)
    rw [pre_len] at m
    have d1 := Int.emod_nonneg (i : Int) (b := ts.sum) (by omega)
    have d2 := Int.emod_lt_of_pos (i : Int) hp
    have key : ((i + 1 : Nat) : Int) % ts.sum = if (i : Int) % ts.sum + 1 = ts.sum then 0 else (i : Int) % ts.sum + 1 := by
      have : ((i + 1 : Nat) : Int) % ts.sum = ((i : Int) % ts.sum + 1) % ts.sum := by
        rw [Int.emod_add_emod]
        simp
      rw [this]
      split
      · rename_i q; rw [q]; simp
      · exact Int.emod_eq_of_lt (by omega) (by omega)
    rw [key]
    have eg : ts.getD (wk ts i).1 0 = ts[(wk ts i).1] := by simp [List.getD, List.getElem?_eq_getElem hb]
    have hw : wk ts (i + 1) = if (wk ts i).2 + 1 = ts[(wk ts i).1] then (((wk ts i).1 + 1) % ts.length, 0) else ((wk ts i).1, (wk ts i).2 + 1) := by
      rw [← eg]; rfl
    rw [hw]
    by_cases c : (wk ts i).2 + 1 = ts[(wk ts i).1]
    · rw [if_pos c]
      rcases Nat.lt_or_ge ((wk ts i).1 + 1) ts.length with q | q
      · have hq := hp1 ts[(wk ts i).1 + 1] (List.getElem_mem _)
        have m2 := pre_mono hp1 (i := (wk ts i).1 + 1 + 1) (j := ts.length) (by omega) (Nat.le_refl _)
        rw [pre_len, pre_succ q] at m2
        rw [if_neg (by omega)]
        have em : ((wk ts i).1 + 1) % ts.length = (wk ts i).1 + 1 := Nat.mod_eq_of_lt q
        simp only [em]
        exact ⟨q, by omega, by omega, by omega⟩
      · have q2 : (wk ts i).1 + 1 = ts.length := by omega
        have em : ((wk ts i).1 + 1) % ts.length = 0 := by rw [q2]; simp
        have : pre ts ((wk ts i).1 + 1) = ts.sum := by rw [q2, pre_len]
        rw [if_pos (by omega)]
        simp only [em]
        have := hp1 (ts[0]'(by omega)) (List.getElem_mem _)
        exact ⟨by omega, by omega, by omega, by rw [pre_zero]; rfl⟩
    · rw [if_neg c, if_neg (by omega)]
      exact ⟨hb, by simp only; omega, by simp only; omega, by simp only; omega⟩
theorem wk_per {ts : List Int} (h : IsTune ts) {i j : Nat} (e : (i : Int) % ts.sum = (j : Int) % ts.sum) : wk ts i = wk ts j := by
  have hp1 : ∀ t ∈ ts, 1 ≤ t := fun t ht => (h.2.2 t ht).1
  have a := wk_at h i
  have b := wk_at h j
  rw [e] at a
  have c1 := a.count hp1
  have c2 := b.count hp1
  have e1 : (wk ts i).1 = (wk ts j).1 := by omega
  have q1 := a.e
  have q2 := b.e
  rw [e1] at q1
  exact Prod.ext e1 (by omega)

theorem w_whole (k : Nat) (S : Sto) (z : Int) : callQ T (k + 1) "is_whole" [.d (.int z)] S = .ok (.d (.bool true)) S := by
  rw [callQ_succ T_is_whole rfl rfl]; simp [F_is_whole, startQ]
theorem w_among (k : Nat) (S : Sto) (z l h : Int) : callQ T (k + 2) "is_among" [.d (.int z), .d (.int l), .d (.int h)] S = .ok (.d (.bool (decide (l ≤ z ∧ z ≤ h)))) S := by
  rw [callQ_succ T_is_among rfl rfl]; simp [F_is_among, startQ, w_whole]
  by_cases h1 : l ≤ z <;> simp [h1]
theorem w_row (k : Nat) (S : Sto) (xs : List D) (l h : Int) : callQ T (k + 1) "is_row" [.d (.tuple xs), .d (.int l), .d (.int h)] S = .ok (.d (.bool (decide (l ≤ xs.length ∧ (xs.length : Int) ≤ h)))) S := by
  rw [callQ_succ T_is_row rfl rfl]; simp [F_is_row, startQ]
  by_cases h1 : l ≤ xs.length <;> simp [h1]
abbrev tuD (ts : List Int) : D := .tuple (ts.map .int)
theorem w_isTune (k : Nat) (S : Sto) {ts : List Int} (h : IsTune ts) : callQ T (k + 3) "is_tune" [.d (tuD ts)] S = .ok (.d (.bool true)) S := by
  rw [callQ_succ T_is_tune rfl rfl]
  obtain ⟨h1, h2, h3⟩ := h
  have e : ∀ env, compL (.name 1) (cYes (callQ T (k + 2))) (C_is_tune_1 (callQ T (k + 2))) [some (.d (tuD ts)), env] (ts.map PyData.int) S = .ok (ts.map fun _ => PyData.bool true) S := by
    intro env
    refine compL_on _ _ (fun d hd => by simp) fun t ht => ?_
    obtain ⟨h4, h5⟩ := h3 t ht
    simp [C_is_tune_1, w_among, h4, h5]
  have h1' : (1 : Int) ≤ ts.length := by omega
  have h2' : (ts.length : Int) ≤ 8 := by omega
  have hl : ts.length ≤ LIM := lim_of (by omega)
  have hb : bools (ts.map fun _ => PyData.bool true) = some (ts.map fun _ => true) := bools_on _ fun _ _ => rfl
  have hall : (ts.map fun _ => true).all id = true := by simp
  simp only [F_is_tune, startQ]
  simp [w_row, h1', h2', notOwn, e, hl, hb]
theorem w_need (k : Nat) (S : Sto) {ts : List Int} (h : IsTune ts) : callQ T (k + 4) "need_tune" [.d (tuD ts)] S = .ok (.d .none) S := by
  rw [callQ_succ T_need_tune rfl rfl]; simp [F_need_tune, startQ, w_isTune k S h]
theorem cut_take (ts : List Int) {j : Nat} (h : j ≤ ts.length) : cutD (ts.map PyData.int) none (some (j : Int)) = (ts.take j).map PyData.int := by
  unfold cutD
  rw [HT.sIx_none, HT.sIx_nat]
  simp [List.map_take, Nat.min_eq_left h]
theorem w_begins (k : Nat) (S : Sto) {ts : List Int} (h : IsTune ts) : callQ T (k + 1) "begins_of" [.d (tuD ts)] S = .ok (.d (.list ((List.range ts.length).map fun j => .int (pre ts j)))) S := by
  rw [callQ_succ T_begins_of rfl rfl]
  have e : ∀ env, compL (.name 1) (cYes (callQ T k)) (C_begins_of_1 (callQ T k)) [some (.d (tuD ts)), env] ((List.range ts.length).map fun k : Nat => PyData.int (0 + k)) S = .ok ((List.range ts.length).map fun j => PyData.int (pre ts j)) S := by
    intro env
    refine compL_on _ _ (fun d hd => by simp) fun t ht => ?_
    have ht : t < ts.length := by simpa using ht
    simp [C_begins_of_1, cut_take ts (Nat.le_of_lt ht), pre, -List.map_take]
  have h2 := h.2.1
  have hr : inR (ts.length : Int) = true := inR_of (by omega) (by omega)
  simp only [F_begins_of, startQ]
  simp [notOwn, hr, rangeD_map]
  simp at e
  have hl : ts.length ≤ LIM := lim_of (by omega)
  simp [e, hl]
theorem w_barAt (k : Nat) (S : Sto) {ts : List Int} (h : IsTune ts) (z : Nat) : callQ T (k + 5) "bar_at" [.d (tuD ts), .d (.int z)] S = .ok (.d (.tuple [.int (wk ts z).1, .int (wk ts z).2])) S := by
  have hp1 : ∀ t ∈ ts, 1 ≤ t := fun t ht => (h.2.2 t ht).1
  have a := wk_at h z
  have hp := sum_pos h
  have hc := a.count hp1
  rw [callQ_succ T_bar_at rfl rfl]
  have e : ∀ (b : Option W) (c : Option W) (n : Option W), compL (.name 4) (D_bar_at_1 (callQ T (k + 4))) (C_bar_at_2 (callQ T (k + 4))) [b, c, some (.d (.int ((z : Int) % ts.sum))), none, n] ((List.range ts.length).map fun j => PyData.int (pre ts j)) S = .ok (((List.range ts.length).filter fun j => decide (pre ts j ≤ (z : Int) % ts.sum)).map fun j => PyData.int (pre ts j)) S := by
    intro b c n
    refine compL_onf _ _ _ (fun d hd => ?_) fun d hd _ => ?_
    · simp [D_bar_at_1]
    · simp [C_bar_at_2]
  have hb := a.hb
  have h2 := h.2.1
  have e0 := a.e
  have hl : (wk ts z).1 < 16777216 := by omega
  have hx : ((wk ts z).1 : Int) + 1 - 1 = (wk ts z).1 := by omega
  have hz : ¬ (z : Int) < 0 := by omega
  simp [F_bar_at, startQ, w_need k S h, w_whole, hp, w_begins, h, notOwn, e, hc, hb, hl, hx, hz, atI_nat, Nat.succ_le_iff, LIM]

  omega
theorem w_cell (k : Nat) (S : Sto) (ns : List Int) (j : Nat) : ∃ z, callQ T (k + 1) "_law_cell_at" [.scr ns, .d (.int j)] S = .ok (.d (.int z)) S := by
  rw [callQ_succ T__law_cell_at rfl rfl]
  by_cases h : j < ns.length
  · refine ⟨ns[j], ?_⟩
    simp [F__law_cell_at, startQ, gLen, h, atI_nat]
  · refine ⟨0, ?_⟩
    simp [F__law_cell_at, startQ, gLen, h]
theorem w_pen (k : Nat) (S : Sto) (z : Int) : ∃ S', callQ T (k + 1) "_law_pen" [.d (.int z)] S = .ok (.ref S.length) S' ∧ PenOk S' S.length := by
  rw [callQ_succ T__law_pen rfl rfl]
  refine ⟨S ++ [.lst [.int (if z - 10 ^ 18 > 0 then z - 10 ^ 18 else 0), .int (z % 2147483629 + 1), .int 0]], ?_, ?_⟩
  · simp [F__law_pen, startQ, LIM]
  · refine ⟨_, _, _, by simp; exact ⟨rfl, rfl, rfl⟩, ?_, ?_, ?_⟩
    · split <;> omega
    · have := Int.emod_nonneg z (b := 2147483629) (by omega); omega
    · have := Int.emod_lt_of_pos z (b := 2147483629) (by omega); omega
theorem w_draw (k : Nat) {n : Nat} {m : Int} {S : Sto} (h : PenOk S n) (h0 : 0 < m) (hm : m < 1073741824) : ∃ r S', callQ T (k + 1) "_law_draw" [.ref n, .d (.int m)] S = .ok (.d (.int r)) S' ∧ 0 ≤ r ∧ r < m ∧ PenOk S' n := by
  obtain ⟨r, S', e, h1, h2, p, _⟩ := draw_spec (k := k) T__law_draw h h0 hm
  exact ⟨r, S', e, h1, h2, p⟩
theorem w_pick (k : Nat) {n : Nat} {S : Sto} (h : PenOk S n) (xs : List D) (h0 : 0 < xs.length) (hm : xs.length < 1073741824) : ∃ x S', x ∈ xs ∧ callQ T (k + 2) "_law_pick" [.ref n, .d (.list xs)] S = .ok (.d x) S' ∧ PenOk S' n := by
  obtain ⟨r, S', e, h1, h2, p⟩ := w_draw k h (m := xs.length) (by omega) (by omega)
  obtain ⟨j, rfl⟩ := Int.eq_ofNat_of_zero_le h1
  have hj : j < xs.length := by omega
  refine ⟨xs[j], S', List.getElem_mem _, ?_, p⟩
  rw [callQ_succ T__law_pick rfl rfl]
  simp [F__law_pick, startQ, e, atI_nat, hj]
theorem w_tune (k : Nat) {n : Nat} {S : Sto} (h : PenOk S n) : ∃ ts S', IsTune ts ∧ callQ T (k + 3) "_law_tune" [.ref n] S = .ok (.d (tuD ts)) S' ∧ PenOk S' n := by
  obtain ⟨x, S1, hx, e1, p1⟩ := w_pick k h [.int 3, .int 5, .int 12] (by simp) (by simp)
  obtain ⟨most, rfl, hm⟩ : ∃ m : Int, x = .int m ∧ 1 ≤ m ∧ m ≤ 12 := by
    simp at hx
    rcases hx with rfl | rfl | rfl <;> exact ⟨_, rfl, by omega, by omega⟩
  obtain ⟨y, S2, hy, e2, p2⟩ := w_pick k p1 [.int 2, .int 4, .int 8] (by simp) (by simp)
  obtain ⟨lim, rfl, hl⟩ : ∃ m : Int, y = .int m ∧ 1 ≤ m ∧ m ≤ 8 := by
    simp at hy
    rcases hy with rfl | rfl | rfl <;> exact ⟨_, rfl, by omega, by omega⟩
  obtain ⟨r, S3, e3, r0, r1, p3⟩ := w_draw (k + 1) p2 (m := lim) (by omega) (by omega)
  have hc := compL_st (i := 2) (f := C__law_tune_1 (callQ T (k + 2))) (c := cYes (callQ T (k + 2))) (env := [some (.ref n), some (.d (.int most)), none]) (fun S => PenOk S n) (fun d => ∃ t : Int, d = .int t ∧ 1 ≤ t ∧ t ≤ 12) (fun d S _ => rfl) (ds := rangeD 0 (1 + r).toNat) p3 (by
    intro d hd S hS
    obtain ⟨r, S', e, r0, r1, p⟩ := w_draw (k + 1) hS (m := most) (by omega) (by omega)
    exact ⟨.int (1 + r), S', by simp [C__law_tune_1, e], p, 1 + r, rfl, by omega, by omega⟩)
  obtain ⟨xs, S4, e4, p4, l4, q4⟩ := hc
  have hall : ∀ {xs : List D}, (∀ x ∈ xs, ∃ t : Int, x = .int t ∧ 1 ≤ t ∧ t ≤ 12) → ∃ ts : List Int, xs = ts.map PyData.int ∧ ∀ t ∈ ts, 1 ≤ t ∧ t ≤ 12 := by
    intro xs
    induction xs with
    | nil => exact fun _ => ⟨[], rfl, by simp⟩
    | cons x xs ih =>
      intro h
      obtain ⟨t, rfl, ht⟩ := h x (by simp)
      obtain ⟨ts, rfl, hts⟩ := ih fun y hy => h y (by simp [hy])
      exact ⟨t :: ts, rfl, by simpa using ⟨ht, hts⟩⟩
  obtain ⟨ts, rfl, hts⟩ := hall q4
  have hlen : ts.length = (1 + r).toNat := by
    have := l4
    rw [rangeD_len] at this
    simpa using this
  refine ⟨ts, S4, ⟨by omega, by omega, hts⟩, ?_, p4⟩
  have hr : inR (1 + r) = true := inR_of (by omega) (by omega)
  have hli : ts.length ≤ 16777216 := by omega
  rw [callQ_succ T__law_tune rfl rfl]
  simp [F__law_tune, startQ, e1, e2, e3, e4, hr, notOwn, LIM, hli]
def wkD (ts : List Int) (i : Nat) : D := .tuple [.int (wk ts i).1, .int (wk ts i).2]
theorem w_walk (k : Nat) {S : Sto} {ts : List Int} (h : IsTune ts) (m : Nat) (hm : m ≤ 1000) : callQ T (k + 1) "_law_walk" [.d (tuD ts), .d (.int m)] S = .ok (.d (.list ((List.range m).map (wkD ts)))) S := by
  have h2 := h.2.1
  have loop := forL_inv0 (t := .name 5) (body := B__law_walk_1 (callQ T k)) (ds := rangeD 0 m) (env := [some (.d (tuD ts)), some (.d (.int m)), some (.own []), some (.d (.int 0)), some (.d (.int 0)), none]) (S := S)
    (fun i env S' => ∃ e5, env = [some (.d (tuD ts)), some (.d (.int m)), some (.own ((List.range i).map (wkD ts))), some (.d (.int (wk ts i).1)), some (.d (.int (wk ts i).2)), e5] ∧ S' = S) ⟨none, rfl, rfl⟩ (by
    rintro i d env S' hd ⟨e5, rfl, rfl⟩
    obtain ⟨hi, rfl⟩ := rangeD_get hd
    have a := wk_at h i
    have hb := a.hb
    have hg : ts[(wk ts i).1]? = some ts[(wk ts i).1] := List.getElem?_eq_getElem hb
    have hw : wk ts (i + 1) = if (wk ts i).2 + 1 = ts[(wk ts i).1] then (((wk ts i).1 + 1) % ts.length, 0) else ((wk ts i).1, (wk ts i).2 + 1) := by
      have eg : ts.getD (wk ts i).1 0 = ts[(wk ts i).1] := by simp [List.getD, List.getElem?_eq_getElem hb]
      rw [← eg]; rfl
    have hl : i < 16777216 := by omega
    have hp : 0 < ts.length := by omega
    refine ⟨_, [some (.d (tuD ts)), some (.d (.int m)), some (.own ((List.range (i + 1)).map (wkD ts))), some (.d (.int (wk ts (i + 1)).1)), some (.d (.int (wk ts (i + 1)).2)), some (.d (.int (0 + i)))], S', rfl, .inl ?_, ⟨_, rfl, rfl⟩⟩
    rw [hw]
    by_cases c : (wk ts i).2 + 1 = ts[(wk ts i).1]
    · simp [B__law_walk_1, LIM, List.range_succ, wkD, hl, atI_nat, hb, c, hp]
    · simp [B__law_walk_1, LIM, List.range_succ, wkD, hl, atI_nat, hb, c, hp])
  obtain ⟨env', S', e, e5, rfl, rfl⟩ := loop
  have hr : inR (m : Int) = true := inR_of (by omega) (by omega)
  rw [callQ_succ T__law_walk rfl rfl]
  simp [F__law_walk, startQ, sParO3a, hr, rangeD_len, LIM] at *
  simp [e]
theorem sh_wkD {ts : List Int} (h : IsTune ts) (i : Nat) : Sh 33 1 (wkD ts i) := by
  have a := wk_at h i
  have hb := a.hb
  have h2 := h.2.1
  have := (h.2.2 _ (List.getElem_mem hb)).2
  have h0 := a.h0; have h1 := a.h1
  refine sh_tup (n := 13) (k := 0) (xs := [.int (wk ts i).1, .int (wk ts i).2]) fun x hx => ?_
  simp at hx
  rcases hx with rfl | rfl <;> exact sh_int (by omega)
theorem sh_tu {ts : List Int} (h : IsTune ts) : Sh 200 1 (tuD ts) := by
  have h2 := h.2.1
  refine (sh_tup (n := 13) (k := 0) (xs := ts.map .int) fun x hx => ?_).mono (by simp; omega) (Nat.le_refl _)
  obtain ⟨t, ht, rfl⟩ := List.mem_map.mp hx
  have := h.2.2 t ht
  exact sh_int (by omega)
theorem sh_walk {ts : List Int} (h : IsTune ts) (m : Nat) (hm : m ≤ 1000) : Sh 40000 2 (.list ((List.range m).map (wkD ts))) :=
  (sh_lst (n := 33) (k := 1) (xs := (List.range m).map (wkD ts)) fun x hx => by
    obtain ⟨i, _, rfl⟩ := List.mem_map.mp hx
    exact sh_wkD h i).mono (by simp; omega) (Nat.le_refl _)
/-- the turn of a lap -/
theorem w_lap (k : Nat) {S : Sto} {ts : List Int} (h : IsTune ts) (e0 e1 e2 e4 e7 e8 : Option W) :
    B_law_2 (callQ T (k + 5)) [e0, e1, e2, some (.d (tuD ts)), e4, some (.d (.int ts.sum)), some (.d (.list ((List.range (3 * ts.sum).toNat).map (wkD ts)))), e7, e8, none] S = .next [e0, e1, e2, some (.d (tuD ts)), e4, some (.d (.int ts.sum)), some (.d (.list ((List.range (3 * ts.sum).toNat).map (wkD ts)))), e7, e8, none] S := by
  have hp := sum_pos h
  have hs := sum_le h.2.2
  have h2 := h.2.1
  have hc : ∀ n, compL (.name 9) (cYes (callQ T (k + 5))) (C_law_1 (callQ T (k + 5))) [e0, e1, e2, some (.d (tuD ts)), e4, some (.d (.int ts.sum)), some (.d (.list ((List.range (3 * ts.sum).toNat).map (wkD ts)))), e7, e8, n] ((List.range (3 * ts.sum).toNat).map fun k : Nat => PyData.int (0 + k)) S = .ok ((List.range (3 * ts.sum).toNat).map (wkD ts)) S := by
    intro n
    refine compL_on _ _ (fun d hd => rfl) fun j hj => ?_
    simp [C_law_1, w_barAt k S h j, wkD]
  have hr : inR (3 * ts.sum) = true := inR_of (by omega) (by omega)
  have hm : sm 3 = true := by decide
  have hl : (3 * ts.sum).toNat ≤ 16777216 := by omega
  have ho := (sh_walk h (3 * ts.sum).toNat (by omega)).ok (by omega) (by omega)
  simp at hc
  simp [B_law_2, notOwn, hr, hm, rangeD_map, hc, LIM, hl, ho]
/-- the turn of a far beat -/
theorem w_far (k : Nat) {S : Sto} {ts : List Int} (h : IsTune ts) (e0 e1 e2 e4 e7 : Option W) (z : Nat) :
    B_law_3 (callQ T (k + 5)) [e0, e1, e2, some (.d (tuD ts)), e4, some (.d (.int ts.sum)), some (.d (.list ((List.range (3 * ts.sum).toNat).map (wkD ts)))), e7, some (.d (.int z)), none] S = .next [e0, e1, e2, some (.d (tuD ts)), e4, some (.d (.int ts.sum)), some (.d (.list ((List.range (3 * ts.sum).toNat).map (wkD ts)))), e7, some (.d (.int z)), none] S := by
  have hp := sum_pos h
  have hs := sum_le h.2.2
  have h2 := h.2.1
  obtain ⟨j, hj⟩ := Int.eq_ofNat_of_zero_le (Int.emod_nonneg (z : Int) (b := ts.sum) (by omega))
  have hlt := Int.emod_lt_of_pos (z : Int) hp
  have hjl : j < (3 * ts.sum).toNat := by omega
  have hw : wk ts z = wk ts j := wk_per h (by rw [hj]; exact (Int.emod_eq_of_lt (by omega) (by omega)).symm)
  have ho := (sh_wkD h j).ok (by omega) (by omega)
  simp only [wkD] at ho
  have hjl2 : (j : Int) < 3 * ts.sum := by omega
  simp [B_law_3, w_barAt k S h z, hw, ho, hp, hj, atI_nat, hjl, wkD]
/-- the turn of a tune -/
theorem w_turn (k : Nat) {n : Nat} {S : Sto} (pe : PenOk S n) {ts : List Int} (h : IsTune ts) (e0 e1 e4 e5 e6 e7 e8 : Option W) :
    ∃ f4 f5 f6 f7 f8 S', B_law_4 (callQ T (k + 10)) [e0, e1, some (.ref n), some (.d (tuD ts)), e4, e5, e6, e7, e8, none] S = .next [e0, e1, some (.ref n), some (.d (tuD ts)), f4, f5, f6, f7, f8, none] S' ∧ PenOk S' n := by
  have hp := sum_pos h
  have hs := sum_le h.2.2
  have h2 := h.2.1
  have ho := (sh_tu h).ok (by omega) (by omega)
  have hm : sm 3 = true := by decide
  have hw := w_walk (k + 9) (S := S) h (3 * ts.sum).toNat (by omega)
  have ht : ((3 * ts.sum).toNat : Int) = 3 * ts.sum := by omega
  rw [ht] at hw
  have L1 := forL_all (t := .name 7) (body := B_law_2 (callQ T (k + 10))) (ds := rangeD 0 2) (env := [e0, e1, some (.ref n), some (.d (tuD ts)), some (.d (.str (tuD ts).shown)), some (.d (.int ts.sum)), some (.d (.list ((List.range (3 * ts.sum).toNat).map (wkD ts)))), e7, e8, none]) (S := S)
    (fun env S' => ∃ e7, env = [e0, e1, some (.ref n), some (.d (tuD ts)), some (.d (.str (tuD ts).shown)), some (.d (.int ts.sum)), some (.d (.list ((List.range (3 * ts.sum).toNat).map (wkD ts)))), e7, e8, none] ∧ S' = S) ⟨_, rfl, rfl⟩ (by
      rintro d hd env S' ⟨e7, rfl, rfl⟩
      exact ⟨_, _, _, rfl, .inl (w_lap (k + 5) h _ _ _ _ _ _), _, rfl, rfl⟩)
  obtain ⟨env1, S1, L1, e7', rfl, rfl⟩ := L1
  obtain ⟨r, S2, hd, r0, r1, p2⟩ := w_draw (k + 9) pe (m := 1000000) (by omega) (by omega)
  obtain ⟨rn, rfl⟩ := Int.eq_ofNat_of_zero_le r0
  have L2 := forL_all (t := .name 8) (body := B_law_3 (callQ T (k + 10))) (ds := [.int 100000000000, .int (100000000001 + rn), .int 999999999999]) (env := [e0, e1, some (.ref n), some (.d (tuD ts)), some (.d (.str (tuD ts).shown)), some (.d (.int ts.sum)), some (.d (.list ((List.range (3 * ts.sum).toNat).map (wkD ts)))), e7', e8, none]) (S := S2)
    (fun env S' => ∃ e8, env = [e0, e1, some (.ref n), some (.d (tuD ts)), some (.d (.str (tuD ts).shown)), some (.d (.int ts.sum)), some (.d (.list ((List.range (3 * ts.sum).toNat).map (wkD ts)))), e7', e8, none] ∧ S' = S2) ⟨_, rfl, rfl⟩ (by
      rintro d hme env S' ⟨e8, rfl, rfl⟩
      obtain ⟨z, rfl⟩ : ∃ z : Nat, d = .int z := by
        simp at hme
        rcases hme with rfl | rfl | rfl
        · exact ⟨100000000000, rfl⟩
        · exact ⟨100000000001 + rn, by congr 1⟩
        · exact ⟨999999999999, rfl⟩
      exact ⟨_, _, _, rfl, .inl (w_far (k + 5) h _ _ _ _ _ z), _, rfl, rfl⟩)
  obtain ⟨env2, S3, L2, e8', rfl, rfl⟩ := L2
  refine ⟨some (.d (.str (tuD ts).shown)), some (.d (.int ts.sum)), some (.d (.list ((List.range (3 * ts.sum).toNat).map (wkD ts)))), e7', e8', S3, ?_, p2⟩
  simp [B_law_4, ho, hm, hw, L1, hd, L2, LIM, inR_of]
theorem law_true : ∀ ns : List Int, ns.length ≤ 63 → ∃ S', callQ T 40 "law" [.scr ns] [] = .ok (.d (.bool true)) S' := by
  intro ns hns
  have L := forL_all (t := .name 1) (body := B_law_5 (callQ T 39)) (ds := rangeD 0 (if 1 < (if (3 : Int) < ns.length then 3 else (ns.length : Int)) then (if (3 : Int) < ns.length then 3 else (ns.length : Int)) else 1).toNat) (env := [some (.scr ns), none, none, none, none, none, none, none, none, none]) (S := [])
    (fun env S' => ∃ e1 e2 e3 e4 e5 e6 e7 e8, env = [some (.scr ns), e1, e2, e3, e4, e5, e6, e7, e8, none]) ⟨_, _, _, _, _, _, _, _, rfl⟩ (by
      rintro d hd env S ⟨e1, e2, e3, e4, e5, e6, e7, e8, rfl⟩
      obtain ⟨j, hj, rfl⟩ := rangeD_mem hd
      obtain ⟨z, hz⟩ := w_cell 38 S ns j
      obtain ⟨S1, hp, p1⟩ := w_pen 38 S z
      obtain ⟨ts, S2, hT, ht, p2⟩ := w_tune 36 p1
      have L := forL_all (t := .name 3) (body := B_law_4 (callQ T 39)) (ds := [tuD ts, tuD [12, 12, 12, 12, 12, 12, 12, 12], tuD [1], tuD [1, 12, 1]]) (env := [some (.scr ns), some (.d (.int (0 + j))), some (.ref S.length), e3, e4, e5, e6, e7, e8, none]) (S := S2)
        (fun env S' => PenOk S' S.length ∧ ∃ e3 e4 e5 e6 e7 e8, env = [some (.scr ns), some (.d (.int (0 + j))), some (.ref S.length), e3, e4, e5, e6, e7, e8, none]) ⟨p2, _, _, _, _, _, _, rfl⟩ (by
          rintro d hd env S' ⟨p, e3, e4, e5, e6, e7, e8, rfl⟩
          obtain ⟨ts', rfl, hT'⟩ : ∃ ts', d = tuD ts' ∧ IsTune ts' := by
            simp only [List.mem_cons, List.not_mem_nil, or_false] at hd
            rcases hd with rfl | rfl | rfl | rfl
            · exact ⟨_, rfl, hT⟩
            · exact ⟨_, rfl, by simp, by simp, by simp⟩
            · exact ⟨_, rfl, by simp, by simp, by simp⟩
            · exact ⟨_, rfl, by simp, by simp, by simp⟩
          obtain ⟨f4, f5, f6, f7, f8, S'', e, p'⟩ := w_turn 29 p hT' (some (.scr ns)) (some (.d (.int (0 + j)))) e4 e5 e6 e7 e8
          exact ⟨_, _, _, rfl, .inl e, p', _, _, _, _, _, _, rfl⟩)
      obtain ⟨env', S', L, p', f3, f4, f5, f6, f7, f8, rfl⟩ := L
      refine ⟨_, [some (.scr ns), some (.d (.int (0 + j))), some (.ref S.length), f3, f4, f5, f6, f7, f8, none], S', rfl, .inl ?_, _, _, _, _, _, _, _, _, rfl⟩
      simp at L
      simp [B_law_5, hz, hp, ht, LIM, gMul2]
      exact L)
  obtain ⟨env', S', L, f1, f2, f3, f4, f5, f6, f7, f8, rfl⟩ := L
  refine ⟨S', ?_⟩
  have hr : inR (if 1 < (if (3 : Int) < ns.length then 3 else (ns.length : Int)) then (if (3 : Int) < ns.length then 3 else (ns.length : Int)) else 1) = true := inR_of (by split <;> split <;> omega) (by split <;> split <;> omega)
  rw [callQ_succ T_law rfl rfl]
  simp [F_law, startQ, gLen, hr, L]
end Q

namespace Q
open PySem PySem.Spec PyProof.Rows L2
def top (i : Nat) : Stmt := PySem.Challenge.pw_domelights_k33_bars_of_beats.main.body.getD i (.Pass ⟨0, 0, 0, 0⟩)
abbrev s_is_whole : Stmt := top 5
abbrev s_is_among : Stmt := top 6
abbrev s_is_row : Stmt := top 7
abbrev s_is_tune : Stmt := top 11
abbrev s_need_tune : Stmt := top 12
abbrev s_begins_of : Stmt := top 13
abbrev s_bar_at : Stmt := top 14
abbrev s__law_cell_at : Stmt := top 16
abbrev s__law_pen : Stmt := top 17
abbrev s__law_draw : Stmt := top 18
abbrev s__law_pick : Stmt := top 19
abbrev s__law_tune : Stmt := top 20
abbrev s__law_walk : Stmt := top 21
abbrev s_law : Stmt := top 22
/-- the module's names -/
structure GL (K : PySem.W.Frag) (mg : Str → Option Value) : Prop where
  f_all : mg "all" = none
  f_bool : mg "bool" = none
  f_int : mg "int" = none
  f_isinstance : mg "isinstance" = none
  f_len : mg "len" = none
  f_max : mg "max" = none
  f_min : mg "min" = none
  f_range : mg "range" = none
  f_repr : mg "repr" = none
  f_sum : mg "sum" = none
  f_tuple : mg "tuple" = none
  i_MOST_BARS : ∃ t, mg "MOST_BARS" = some (.int 8 t)
  i_MOST_LONG : ∃ t, mg "MOST_LONG" = some (.int 12 t)
structure CL (P : Program) (w : World) (K : PySem.W.Frag) (mg : Str → Option Value) (base : Heap) (cf : CF) (k : Nat) : Prop where
  c_is_whole : FnQ P w K mg base cf k "is_whole" 1
  c_is_among : FnQ P w K mg base cf k "is_among" 3
  c_is_row : FnQ P w K mg base cf k "is_row" 3
  c_is_tune : FnQ P w K mg base cf k "is_tune" 1
  c_need_tune : FnQ P w K mg base cf k "need_tune" 1
  c_begins_of : FnQ P w K mg base cf k "begins_of" 1
  c_bar_at : FnQ P w K mg base cf k "bar_at" 2
  c__law_cell_at : FnQ P w K mg base cf k "_law_cell_at" 2
  c__law_pen : FnQ P w K mg base cf k "_law_pen" 1
  c__law_draw : FnQ P w K mg base cf k "_law_draw" 2
  c__law_pick : FnQ P w K mg base cf k "_law_pick" 2
  c__law_tune : FnQ P w K mg base cf k "_law_tune" 1
  c__law_walk : FnQ P w K mg base cf k "_law_walk" 2
  c_law : FnQ P w K mg base cf k "law" 1
section
variable {P : Program} {w : World} {K : PySem.W.Frag} {mg : Str → Option Value} {base : Heap} {cf : CF} {k : Nat} {f : Addr} {cdv : Value} {A : Around} {outer : List Env} {s : Shared} {H : Hp} {E : XK}
theorem nd_is_whole : (["thing"] : List Str).Nodup := by decide +kernel
theorem sc_is_whole : FnScope ["thing"] ["thing"] (defScope s_is_whole) := ⟨rfl, rfl, rfl, nd_is_whole, rfl, by decide +kernel, by decide +kernel⟩
theorem ok_is_whole (g : GL K mg) (C : CL P w K mg base cf k) (hA : A.guards = some []) (hr : Room k (A.deeper (envOfC "is_whole" (defScope s_is_whole) s.heap.objs.size f cdv))) :
    MSs (cxOf (L2.CX P w) P w K mg base ["thing"] "is_whole" (defScope s_is_whole) f cdv A outer s H E) cf (fun c d _ H => E c d H) (defBody s_is_whole) F_is_whole :=
  have nd := nd_is_whole
  have tk : Takes (cxOf (L2.CX P w) P w K mg base ["thing"] "is_whole" (defScope s_is_whole) f cdv A outer s H E) (fun c d _ H => E c d H) := takes_of rfl rfl rfl rfl
  (mss_one (ms_ret (me_and (me_isi (T := "int") (by decide) (by rfl) g.f_isinstance (me_var (pv 0)) (pe_bltn (by rfl) g.f_int (by decide +kernel) rfl)) (me_one (me_not (me_isi (T := "bool") (by decide) (by rfl) g.f_isinstance (me_var (pv 0)) (pe_bltn (by rfl) g.f_bool (by decide +kernel) rfl)))))))
theorem nd_is_among : (["thing", "low", "high"] : List Str).Nodup := by decide +kernel
theorem sc_is_among : FnScope ["thing", "low", "high"] ["thing", "low", "high"] (defScope s_is_among) := ⟨rfl, rfl, rfl, nd_is_among, rfl, by decide +kernel, by decide +kernel⟩
theorem ok_is_among (g : GL K mg) (C : CL P w K mg base cf k) (hA : A.guards = some []) (hr : Room k (A.deeper (envOfC "is_among" (defScope s_is_among) s.heap.objs.size f cdv))) :
    MSs (cxOf (L2.CX P w) P w K mg base ["thing", "low", "high"] "is_among" (defScope s_is_among) f cdv A outer s H E) cf (fun c d _ H => E c d H) (defBody s_is_among) F_is_among :=
  have nd := nd_is_among
  have tk : Takes (cxOf (L2.CX P w) P w K mg base ["thing", "low", "high"] "is_among" (defScope s_is_among) f cdv A outer s H E) (fun c d _ H => E c d H) := takes_of rfl rfl rfl rfl
  (mss_one (ms_ret (me_and (me_call C.c_is_whole hA hr tk (by rfl) (ma_cons (me_var (pv 0)) ma_nil)) (me_one (me_chain cm_le cm_le (me_var (pv 1)) (me_var (pv 0)) (me_var (pv 2)))))))
theorem nd_is_row : (["thing", "low", "high"] : List Str).Nodup := by decide +kernel
theorem sc_is_row : FnScope ["thing", "low", "high"] ["thing", "low", "high"] (defScope s_is_row) := ⟨rfl, rfl, rfl, nd_is_row, rfl, by decide +kernel, by decide +kernel⟩
theorem ok_is_row (g : GL K mg) (C : CL P w K mg base cf k) (hA : A.guards = some []) (hr : Room k (A.deeper (envOfC "is_row" (defScope s_is_row) s.heap.objs.size f cdv))) :
    MSs (cxOf (L2.CX P w) P w K mg base ["thing", "low", "high"] "is_row" (defScope s_is_row) f cdv A outer s H E) cf (fun c d _ H => E c d H) (defBody s_is_row) F_is_row :=
  have nd := nd_is_row
  have tk : Takes (cxOf (L2.CX P w) P w K mg base ["thing", "low", "high"] "is_row" (defScope s_is_row) f cdv A outer s H E) (fun c d _ H => E c d H) := takes_of rfl rfl rfl rfl
  (mss_one (ms_ret (me_and (me_isi (T := "tuple") (by decide) (by rfl) g.f_isinstance (me_var (pv 0)) (pe_bltn (by rfl) g.f_tuple (by decide +kernel) rfl)) (me_one (me_chain cm_le cm_le (me_var (pv 1)) (me_len (by rfl) g.f_len (ma_cons (me_var (pv 0)) ma_nil)) (me_var (pv 2)))))))
theorem nd_is_tune : (["thing", "bar"] : List Str).Nodup := by decide +kernel
theorem sc_is_tune : FnScope ["thing", "bar"] ["thing"] (defScope s_is_tune) := ⟨rfl, rfl, rfl, nd_is_tune, rfl, by decide +kernel, by decide +kernel⟩
theorem ok_is_tune (g : GL K mg) (C : CL P w K mg base cf k) (hA : A.guards = some []) (hr : Room k (A.deeper (envOfC "is_tune" (defScope s_is_tune) s.heap.objs.size f cdv))) :
    MSs (cxOf (L2.CX P w) P w K mg base ["thing", "bar"] "is_tune" (defScope s_is_tune) f cdv A outer s H E) cf (fun c d _ H => E c d H) (defBody s_is_tune) F_is_tune :=
  have nd := nd_is_tune
  have tk : Takes (cxOf (L2.CX P w) P w K mg base ["thing", "bar"] "is_tune" (defScope s_is_tune) f cdv A outer s H E) (fun c d _ H => E c d H) := takes_of rfl rfl rfl rfl
  (mss_one (ms_ret (me_and (me_call C.c_is_row hA hr tk (by rfl) (ma_cons (me_var (pv 0)) (ma_cons me_int (ma_cons (me_globI (by rfl) g.i_MOST_BARS) ma_nil)))) (me_one (me_all rfl (by rfl) g.f_all (ma_cons (me_comp (own := [("bar", 1)]) rfl nd (mi_seq (me_var (pv 0))) (blkOk_by (N := ["thing", "bar"]) (sc := defScope s_is_tune) (own := [("bar", 1)]) (by decide +kernel)) (by decide) (fun _ _ _ _ _ => (mg_name (i := 1) nd rfl (by first | exact Or.inl rfl | exact Or.inr rfl))) (fun _ _ _ _ _ => mts_nil) (fun _ _ _ _ _ => (me_call C.c_is_among hA hr takes0 (by rfl) (ma_cons (me_var (pv 1)) (ma_cons me_int (ma_cons (me_globI (by rfl) g.i_MOST_LONG) ma_nil)))))) ma_nil))))))
theorem nd_need_tune : (["thing"] : List Str).Nodup := by decide +kernel
theorem sc_need_tune : FnScope ["thing"] ["thing"] (defScope s_need_tune) := ⟨rfl, rfl, rfl, nd_need_tune, rfl, by decide +kernel, by decide +kernel⟩
theorem ok_need_tune (g : GL K mg) (C : CL P w K mg base cf k) (hA : A.guards = some []) (hr : Room k (A.deeper (envOfC "need_tune" (defScope s_need_tune) s.heap.objs.size f cdv))) :
    MSs (cxOf (L2.CX P w) P w K mg base ["thing"] "need_tune" (defScope s_need_tune) f cdv A outer s H E) cf (fun c d _ H => E c d H) (defBody s_need_tune) F_need_tune :=
  have nd := nd_need_tune
  have tk : Takes (cxOf (L2.CX P w) P w K mg base ["thing"] "need_tune" (defScope s_need_tune) f cdv A outer s H E) (fun c d _ H => E c d H) := takes_of rfl rfl rfl rfl
  (mss_one (ms_if (mt_not (mt_val (me_call C.c_is_tune hA hr tk (by rfl) (ma_cons (me_var (pv 0)) ma_nil))))
  (mss_one ms_never)
  mss_nil))
theorem nd_begins_of : (["tune", "number"] : List Str).Nodup := by decide +kernel
theorem sc_begins_of : FnScope ["tune", "number"] ["tune"] (defScope s_begins_of) := ⟨rfl, rfl, rfl, nd_begins_of, rfl, by decide +kernel, by decide +kernel⟩
theorem ok_begins_of (g : GL K mg) (C : CL P w K mg base cf k) (hA : A.guards = some []) (hr : Room k (A.deeper (envOfC "begins_of" (defScope s_begins_of) s.heap.objs.size f cdv))) :
    MSs (cxOf (L2.CX P w) P w K mg base ["tune", "number"] "begins_of" (defScope s_begins_of) f cdv A outer s H E) cf (fun c d _ H => E c d H) (defBody s_begins_of) F_begins_of :=
  have nd := nd_begins_of
  have tk : Takes (cxOf (L2.CX P w) P w K mg base ["tune", "number"] "begins_of" (defScope s_begins_of) f cdv A outer s H E) (fun c d _ H => E c d H) := takes_of rfl rfl rfl rfl
  (mss_one (ms_ret (me_comp (own := [("number", 1)]) rfl nd (mi_range1 (by rfl) g.f_range (ma_cons (me_len (by rfl) g.f_len (ma_cons (me_var (pv 0)) ma_nil)) ma_nil)) (blkOk_by (N := ["tune", "number"]) (sc := defScope s_begins_of) (own := [("number", 1)]) (by decide +kernel)) (by decide) (fun _ _ _ _ _ => (mg_name (i := 1) nd rfl (by first | exact Or.inl rfl | exact Or.inr rfl))) (fun _ _ _ _ _ => mts_nil) (fun _ _ _ _ _ => (me_sum rfl (by rfl) g.f_sum (ma_cons (me_slice (me_var (pv 0)) mo_none (mo_some (me_var (pv 1)))) ma_nil))))))
theorem nd_bar_at : (["tune", "beat", "left", "number", "begin"] : List Str).Nodup := by decide +kernel
theorem sc_bar_at : FnScope ["tune", "beat", "left", "number", "begin"] ["tune", "beat"] (defScope s_bar_at) := ⟨rfl, rfl, rfl, nd_bar_at, rfl, by decide +kernel, by decide +kernel⟩
theorem ok_bar_at (g : GL K mg) (C : CL P w K mg base cf k) (hA : A.guards = some []) (hr : Room k (A.deeper (envOfC "bar_at" (defScope s_bar_at) s.heap.objs.size f cdv))) :
    MSs (cxOf (L2.CX P w) P w K mg base ["tune", "beat", "left", "number", "begin"] "bar_at" (defScope s_bar_at) f cdv A outer s H E) cf (fun c d _ H => E c d H) (defBody s_bar_at) F_bar_at :=
  have nd := nd_bar_at
  have tk : Takes (cxOf (L2.CX P w) P w K mg base ["tune", "beat", "left", "number", "begin"] "bar_at" (defScope s_bar_at) f cdv A outer s H E) (fun c d _ H => E c d H) := takes_of rfl rfl rfl rfl
  (mss_cons (ms_expr (me_call C.c_need_tune hA hr tk (by rfl) (ma_cons (me_var (pv 0)) ma_nil)))
  (mss_cons (ms_if (mt_w (mw_or (mt_not (mt_val (me_call C.c_is_whole hA hr tk (by rfl) (ma_cons (me_var (pv 1)) ma_nil)))) (mw_or1 (mt_c cm_lt (me_var (pv 1)) me_int (by rfl)))))
  (mss_one ms_never)
  mss_nil)
  (mss_cons (ms_set (i := 2) nd rfl (by first | exact Or.inl rfl | exact Or.inr rfl) (me_mod (me_var (pv 1)) (me_sum rfl (by rfl) g.f_sum (ma_cons (me_var (pv 0)) ma_nil))))
  (mss_cons (ms_set (i := 3) nd rfl (by first | exact Or.inl rfl | exact Or.inr rfl) (me_sub (me_len (by rfl) g.f_len (ma_cons (me_comp (own := [("begin", 4)]) rfl nd (mi_seq (me_call C.c_begins_of hA hr tk (by rfl) (ma_cons (me_var (pv 0)) ma_nil))) (blkOk_by (N := ["tune", "beat", "left", "number", "begin"]) (sc := defScope s_bar_at) (own := [("begin", 4)]) (by decide +kernel)) (by decide) (fun _ _ _ _ _ => (mg_name (i := 4) nd rfl (by first | exact Or.inl rfl | exact Or.inr rfl))) (fun _ _ _ _ _ => (mts_one (mt_c cm_le (me_var (pv 4)) (me_var (pv 2)) (by rfl)))) (fun _ _ _ _ _ => (me_var (pv 4)))) ma_nil)) me_int))
  (mss_one (ms_ret (me_tup (ma_cons (me_var (pv 3)) (ma_cons (me_sub (me_var (pv 2)) (me_at (me_call C.c_begins_of hA hr tk (by rfl) (ma_cons (me_var (pv 0)) ma_nil)) (me_var (pv 3)))) ma_nil)))))))))
theorem nd__law_cell_at : (["_law_script", "_law_k"] : List Str).Nodup := by decide +kernel
theorem sc__law_cell_at : FnScope ["_law_script", "_law_k"] ["_law_script", "_law_k"] (defScope s__law_cell_at) := ⟨rfl, rfl, rfl, nd__law_cell_at, rfl, by decide +kernel, by decide +kernel⟩
theorem ok__law_cell_at (g : GL K mg) (C : CL P w K mg base cf k) (hA : A.guards = some []) (hr : Room k (A.deeper (envOfC "_law_cell_at" (defScope s__law_cell_at) s.heap.objs.size f cdv))) :
    MSs (cxOf (L2.CX P w) P w K mg base ["_law_script", "_law_k"] "_law_cell_at" (defScope s__law_cell_at) f cdv A outer s H E) cf (fun c d _ H => E c d H) (defBody s__law_cell_at) F__law_cell_at :=
  have nd := nd__law_cell_at
  have tk : Takes (cxOf (L2.CX P w) P w K mg base ["_law_script", "_law_k"] "_law_cell_at" (defScope s__law_cell_at) f cdv A outer s H E) (fun c d _ H => E c d H) := takes_of rfl rfl rfl rfl
  (mss_cons (ms_if (mt_c cm_lt (me_var (pv 1)) (me_len (by rfl) g.f_len (ma_cons (me_var (pv 0)) ma_nil)) (by rfl))
  (mss_one (ms_ret (me_at (me_var (pv 0)) (me_var (pv 1)))))
  mss_nil)
  (mss_one (ms_ret me_int)))
theorem nd__law_pen : (["_law_cell"] : List Str).Nodup := by decide +kernel
theorem sc__law_pen : FnScope ["_law_cell"] ["_law_cell"] (defScope s__law_pen) := ⟨rfl, rfl, rfl, nd__law_pen, rfl, by decide +kernel, by decide +kernel⟩
theorem ok__law_pen (g : GL K mg) (C : CL P w K mg base cf k) (hA : A.guards = some []) (hr : Room k (A.deeper (envOfC "_law_pen" (defScope s__law_pen) s.heap.objs.size f cdv))) :
    MSs (cxOf (L2.CX P w) P w K mg base ["_law_cell"] "_law_pen" (defScope s__law_pen) f cdv A outer s H E) cf (fun c d _ H => E c d H) (defBody s__law_pen) F__law_pen :=
  have nd := nd__law_pen
  have tk : Takes (cxOf (L2.CX P w) P w K mg base ["_law_cell"] "_law_pen" (defScope s__law_pen) f cdv A outer s H E) (fun c d _ H => E c d H) := takes_of rfl rfl rfl rfl
  (mss_one (ms_ret (me_newL (ma_cons (me_max2 rfl (by rfl) g.f_max (ma_cons me_int (ma_cons (me_sub (me_var (pv 0)) (me_pow me_int me_int)) ma_nil))) (ma_cons (me_add (me_mod (me_var (pv 0)) me_int) me_int) (ma_cons me_int ma_nil))))))
theorem nd__law_draw : (["_law_pen_here", "_law_many", "_law_found", "_law_stirred"] : List Str).Nodup := by decide +kernel
theorem sc__law_draw : FnScope ["_law_pen_here", "_law_many", "_law_found", "_law_stirred"] ["_law_pen_here", "_law_many"] (defScope s__law_draw) := ⟨rfl, rfl, rfl, nd__law_draw, rfl, by decide +kernel, by decide +kernel⟩
theorem ok__law_draw (g : GL K mg) (C : CL P w K mg base cf k) (hA : A.guards = some []) (hr : Room k (A.deeper (envOfC "_law_draw" (defScope s__law_draw) s.heap.objs.size f cdv))) :
    MSs (cxOf (L2.CX P w) P w K mg base ["_law_pen_here", "_law_many", "_law_found", "_law_stirred"] "_law_draw" (defScope s__law_draw) f cdv A outer s H E) cf (fun c d _ H => E c d H) (defBody s__law_draw) F__law_draw :=
  have nd := nd__law_draw
  have tk : Takes (cxOf (L2.CX P w) P w K mg base ["_law_pen_here", "_law_many", "_law_found", "_law_stirred"] "_law_draw" (defScope s__law_draw) f cdv A outer s H E) (fun c d _ H => E c d H) := takes_of rfl rfl rfl rfl
  (mss_cons (ms_if (mt_c cm_gt (me_at (me_var (pv 0)) me_int) me_int (by rfl))
  (mss_cons (ms_set (i := 2) nd rfl (by first | exact Or.inl rfl | exact Or.inr rfl) (me_mod (me_at (me_var (pv 0)) me_int) (me_var (pv 1))))
  (mss_cons (ms_setIx (me_div (me_at (me_var (pv 0)) me_int) (me_var (pv 1))) (me_var (pv 0)) me_int)
  (mss_one (ms_ret (me_var (pv 2))))))
  mss_nil)
  (mss_cons (ms_setIx (me_add (me_at (me_var (pv 0)) me_int) me_int) (me_var (pv 0)) me_int)
  (mss_cons (ms_setIx (me_mod (me_add (me_add (me_mul (me_at (me_var (pv 0)) me_int) me_int) (me_mul me_int (me_at (me_var (pv 0)) me_int))) me_int) me_int) (me_var (pv 0)) me_int)
  (mss_cons (ms_set (i := 3) nd rfl (by first | exact Or.inl rfl | exact Or.inr rfl) (me_mod (me_add (me_add (me_mul (me_at (me_var (pv 0)) me_int) (me_at (me_var (pv 0)) me_int)) (me_mul me_int (me_at (me_var (pv 0)) me_int))) me_int) me_int))
  (mss_one (ms_ret (me_mod (me_div (me_mod (me_mul (me_var (pv 3)) me_int) me_int) me_int) (me_var (pv 1)))))))))
theorem nd__law_pick : (["_law_pen_here", "_law_some"] : List Str).Nodup := by decide +kernel
theorem sc__law_pick : FnScope ["_law_pen_here", "_law_some"] ["_law_pen_here", "_law_some"] (defScope s__law_pick) := ⟨rfl, rfl, rfl, nd__law_pick, rfl, by decide +kernel, by decide +kernel⟩
theorem ok__law_pick (g : GL K mg) (C : CL P w K mg base cf k) (hA : A.guards = some []) (hr : Room k (A.deeper (envOfC "_law_pick" (defScope s__law_pick) s.heap.objs.size f cdv))) :
    MSs (cxOf (L2.CX P w) P w K mg base ["_law_pen_here", "_law_some"] "_law_pick" (defScope s__law_pick) f cdv A outer s H E) cf (fun c d _ H => E c d H) (defBody s__law_pick) F__law_pick :=
  have nd := nd__law_pick
  have tk : Takes (cxOf (L2.CX P w) P w K mg base ["_law_pen_here", "_law_some"] "_law_pick" (defScope s__law_pick) f cdv A outer s H E) (fun c d _ H => E c d H) := takes_of rfl rfl rfl rfl
  (mss_one (ms_ret (me_at (me_var (pv 1)) (me_call C.c__law_draw hA hr tk (by rfl) (ma_cons (me_var (pv 0)) (ma_cons (me_len (by rfl) g.f_len (ma_cons (me_var (pv 1)) ma_nil)) ma_nil))))))
theorem nd__law_tune : (["_law_pen_here", "_law_most", "_law_bar"] : List Str).Nodup := by decide +kernel
theorem sc__law_tune : FnScope ["_law_pen_here", "_law_most", "_law_bar"] ["_law_pen_here"] (defScope s__law_tune) := ⟨rfl, rfl, rfl, nd__law_tune, rfl, by decide +kernel, by decide +kernel⟩
theorem ok__law_tune (g : GL K mg) (C : CL P w K mg base cf k) (hA : A.guards = some []) (hr : Room k (A.deeper (envOfC "_law_tune" (defScope s__law_tune) s.heap.objs.size f cdv))) :
    MSs (cxOf (L2.CX P w) P w K mg base ["_law_pen_here", "_law_most", "_law_bar"] "_law_tune" (defScope s__law_tune) f cdv A outer s H E) cf (fun c d _ H => E c d H) (defBody s__law_tune) F__law_tune :=
  have nd := nd__law_tune
  have tk : Takes (cxOf (L2.CX P w) P w K mg base ["_law_pen_here", "_law_most", "_law_bar"] "_law_tune" (defScope s__law_tune) f cdv A outer s H E) (fun c d _ H => E c d H) := takes_of rfl rfl rfl rfl
  (mss_cons (ms_set (i := 1) nd rfl (by first | exact Or.inl rfl | exact Or.inr rfl) (me_call C.c__law_pick hA hr tk (by rfl) (ma_cons (me_var (pv 0)) (ma_cons (me_lst (ma_cons me_int (ma_cons me_int (ma_cons me_int ma_nil)))) ma_nil))))
  (mss_one (ms_ret (me_tuple (by rfl) g.f_tuple (ma_cons (me_comp (own := [("_law_bar", 2)]) rfl nd (mi_range1 (by rfl) g.f_range (ma_cons (me_add me_int (me_call C.c__law_draw hA hr tk (by rfl) (ma_cons (me_var (pv 0)) (ma_cons (me_call C.c__law_pick hA hr tk (by rfl) (ma_cons (me_var (pv 0)) (ma_cons (me_lst (ma_cons me_int (ma_cons me_int (ma_cons me_int ma_nil)))) ma_nil))) ma_nil)))) ma_nil)) (blkOk_by (N := ["_law_pen_here", "_law_most", "_law_bar"]) (sc := defScope s__law_tune) (own := [("_law_bar", 2)]) (by decide +kernel)) (by decide) (fun _ _ _ _ _ => (mg_name (i := 2) nd rfl (by first | exact Or.inl rfl | exact Or.inr rfl))) (fun _ _ _ _ _ => mts_nil) (fun _ _ _ _ _ => (me_add me_int (me_call C.c__law_draw hA hr takes0 (by rfl) (ma_cons (me_var (pv 0)) (ma_cons (me_var (pv 1)) ma_nil)))))) ma_nil)))))
theorem nd__law_walk : (["_law_tune_here", "_law_many", "_law_found", "_law_bar", "_law_ahead", "_law_beat"] : List Str).Nodup := by decide +kernel
theorem sc__law_walk : FnScope ["_law_tune_here", "_law_many", "_law_found", "_law_bar", "_law_ahead", "_law_beat"] ["_law_tune_here", "_law_many"] (defScope s__law_walk) := ⟨rfl, rfl, rfl, nd__law_walk, rfl, by decide +kernel, by decide +kernel⟩
theorem ok__law_walk (g : GL K mg) (C : CL P w K mg base cf k) (hA : A.guards = some []) (hr : Room k (A.deeper (envOfC "_law_walk" (defScope s__law_walk) s.heap.objs.size f cdv))) :
    MSs (cxOf (L2.CX P w) P w K mg base ["_law_tune_here", "_law_many", "_law_found", "_law_bar", "_law_ahead", "_law_beat"] "_law_walk" (defScope s__law_walk) f cdv A outer s H E) cf (fun c d _ H => E c d H) (defBody s__law_walk) F__law_walk :=
  have nd := nd__law_walk
  have tk : Takes (cxOf (L2.CX P w) P w K mg base ["_law_tune_here", "_law_many", "_law_found", "_law_bar", "_law_ahead", "_law_beat"] "_law_walk" (defScope s__law_walk) f cdv A outer s H E) (fun c d _ H => E c d H) := takes_of rfl rfl rfl rfl
  (mss_cons (ms_parO3a (i := 2) (j := 3) (l := 4) rfl nd rfl rfl rfl (by decide) (by decide) (by decide) rfl rfl rfl ma_nil me_int me_int rfl)
  (mss_cons (ms_for (passes_of rfl) rfl (mi_range1 (by rfl) g.f_range (ma_cons (me_var (pv 1)) ma_nil)) (mg_name (i := 5) nd rfl (by first | exact Or.inl rfl | exact Or.inr rfl))
  (mss_cons (ms_app (pv 2) (me_tup (ma_cons (me_var (pv 3)) (ma_cons (me_var (pv 4)) ma_nil))))
  (mss_cons (ms_set (i := 4) nd rfl (by first | exact Or.inl rfl | exact Or.inr rfl) (me_add (me_var (pv 4)) me_int))
  (mss_one (ms_if (mt_c (cm_eq hr) (me_var (pv 4)) (me_at (me_var (pv 0)) (me_var (pv 3))) (by rfl))
  (mss_one (ms_par2 (i := 3) (j := 4) rfl nd rfl rfl (by decide) rfl rfl (ma_cons (me_mod (me_add (me_var (pv 3)) me_int) (me_len (by rfl) g.f_len (ma_cons (me_var (pv 0)) ma_nil))) (ma_cons me_int ma_nil)) rfl))
  mss_nil)))))
  (mss_one (ms_retO (pv 2)))))
theorem nd_law : (["_law_script", "_law_k", "_law_pen_here", "_law_tune_here", "_law_kept", "_law_whole", "_law_walk_here", "_law_lap", "_law_far", "_law_beat"] : List Str).Nodup := by decide +kernel
theorem sc_law : FnScope ["_law_script", "_law_k", "_law_pen_here", "_law_tune_here", "_law_kept", "_law_whole", "_law_walk_here", "_law_lap", "_law_far", "_law_beat"] ["_law_script"] (defScope s_law) := ⟨rfl, rfl, rfl, nd_law, rfl, by decide +kernel, by decide +kernel⟩
theorem ok_law (g : GL K mg) (C : CL P w K mg base cf k) (hA : A.guards = some []) (hr : Room k (A.deeper (envOfC "law" (defScope s_law) s.heap.objs.size f cdv))) :
    MSs (cxOf (L2.CX P w) P w K mg base ["_law_script", "_law_k", "_law_pen_here", "_law_tune_here", "_law_kept", "_law_whole", "_law_walk_here", "_law_lap", "_law_far", "_law_beat"] "law" (defScope s_law) f cdv A outer s H E) cf (fun c d _ H => E c d H) (defBody s_law) F_law :=
  have nd := nd_law
  have tk : Takes (cxOf (L2.CX P w) P w K mg base ["_law_script", "_law_k", "_law_pen_here", "_law_tune_here", "_law_kept", "_law_whole", "_law_walk_here", "_law_lap", "_law_far", "_law_beat"] "law" (defScope s_law) f cdv A outer s H E) (fun c d _ H => E c d H) := takes_of rfl rfl rfl rfl
  (mss_cons (ms_for (passes_of rfl) rfl (mi_range1 (by rfl) g.f_range (ma_cons (me_max2 rfl (by rfl) g.f_max (ma_cons me_int (ma_cons (me_min2 rfl (by rfl) g.f_min (ma_cons (me_len (by rfl) g.f_len (ma_cons (me_var (pv 0)) ma_nil)) (ma_cons me_int ma_nil))) ma_nil))) ma_nil)) (mg_name (i := 1) nd rfl (by first | exact Or.inl rfl | exact Or.inr rfl))
  (mss_cons (ms_set (i := 2) nd rfl (by first | exact Or.inl rfl | exact Or.inr rfl) (me_call C.c__law_pen hA hr tk (by rfl) (ma_cons (me_call C.c__law_cell_at hA hr tk (by rfl) (ma_cons (me_var (pv 0)) (ma_cons (me_var (pv 1)) ma_nil))) ma_nil)))
  (mss_one (ms_for (passes_of rfl) rfl (mi_seq (me_lst (ma_cons (me_call C.c__law_tune hA hr tk (by rfl) (ma_cons (me_var (pv 2)) ma_nil)) (ma_cons (me_mul (me_tup (ma_cons me_int ma_nil)) me_int) (ma_cons (me_tup (ma_cons me_int ma_nil)) (ma_cons (me_tup (ma_cons me_int (ma_cons me_int (ma_cons me_int ma_nil)))) ma_nil)))))) (mg_name (i := 3) nd rfl (by first | exact Or.inl rfl | exact Or.inr rfl))
  (mss_cons (ms_par2 (i := 4) (j := 5) rfl nd rfl rfl (by decide) rfl rfl (ma_cons (me_repr hA hr (by rfl) g.f_repr (ma_cons (me_var (pv 3)) ma_nil)) (ma_cons (me_sum rfl (by rfl) g.f_sum (ma_cons (me_var (pv 3)) ma_nil)) ma_nil)) rfl)
  (mss_cons (ms_set (i := 6) nd rfl (by first | exact Or.inl rfl | exact Or.inr rfl) (me_call C.c__law_walk hA hr tk (by rfl) (ma_cons (me_var (pv 3)) (ma_cons (me_mul me_int (me_var (pv 5))) ma_nil))))
  (mss_cons (ms_for (passes_of rfl) rfl (mi_range1 (by rfl) g.f_range (ma_cons me_int ma_nil)) (mg_name (i := 7) nd rfl (by first | exact Or.inl rfl | exact Or.inr rfl))
  (mss_one (ms_if (mt_c (cm_ne hr) (me_repr hA hr (by rfl) g.f_repr (ma_cons (me_comp (own := [("_law_beat", 9)]) rfl nd (mi_range1 (by rfl) g.f_range (ma_cons (me_mul me_int (me_var (pv 5))) ma_nil)) (blkOk_by (N := ["_law_script", "_law_k", "_law_pen_here", "_law_tune_here", "_law_kept", "_law_whole", "_law_walk_here", "_law_lap", "_law_far", "_law_beat"]) (sc := defScope s_law) (own := [("_law_beat", 9)]) (by decide +kernel)) (by decide) (fun _ _ _ _ _ => (mg_name (i := 9) nd rfl (by first | exact Or.inl rfl | exact Or.inr rfl))) (fun _ _ _ _ _ => mts_nil) (fun _ _ _ _ _ => (me_call C.c_bar_at hA hr takes0 (by rfl) (ma_cons (me_var (pv 3)) (ma_cons (me_var (pv 9)) ma_nil))))) ma_nil)) (me_repr hA hr (by rfl) g.f_repr (ma_cons (me_var (pv 6)) ma_nil)) (by rfl))
  (mss_one (ms_ret me_bl))
  mss_nil)))
  (mss_cons (ms_for (passes_of rfl) rfl (mi_seq (me_lst (ma_cons (me_pow me_int me_int) (ma_cons (me_add (me_add (me_pow me_int me_int) me_int) (me_call C.c__law_draw hA hr tk (by rfl) (ma_cons (me_var (pv 2)) (ma_cons (me_pow me_int me_int) ma_nil)))) (ma_cons (me_sub (me_pow me_int me_int) me_int) ma_nil))))) (mg_name (i := 8) nd rfl (by first | exact Or.inl rfl | exact Or.inr rfl))
  (mss_one (ms_if (mt_c (cm_ne hr) (me_repr hA hr (by rfl) g.f_repr (ma_cons (me_call C.c_bar_at hA hr tk (by rfl) (ma_cons (me_var (pv 3)) (ma_cons (me_var (pv 8)) ma_nil))) ma_nil)) (me_repr hA hr (by rfl) g.f_repr (ma_cons (me_at (me_var (pv 6)) (me_mod (me_var (pv 8)) (me_var (pv 5)))) ma_nil)) (by rfl))
  (mss_one (ms_ret me_bl))
  mss_nil)))
  (mss_one (ms_if (mt_c (cm_ne hr) (me_repr hA hr (by rfl) g.f_repr (ma_cons (me_var (pv 3)) ma_nil)) (me_var (pv 4)) (by rfl))
  (mss_one (ms_ret me_bl))
  mss_nil))))))))))
  (mss_one (ms_ret me_bl)))
end
end Q

set_option maxHeartbeats 0
namespace Q
open PySem PySem.Spec PyProof.Rows L2
def d_is_whole : He.DefD := ⟨("is_whole", none), "is_whole", "is_whole", defArgs s_is_whole, defBody s_is_whole, defScope s_is_whole, [], []⟩
def d_is_among : He.DefD := ⟨("is_among", none), "is_among", "is_among", defArgs s_is_among, defBody s_is_among, defScope s_is_among, [], []⟩
def d_is_row : He.DefD := ⟨("is_row", none), "is_row", "is_row", defArgs s_is_row, defBody s_is_row, defScope s_is_row, [], []⟩
def d_is_tune : He.DefD := ⟨("is_tune", none), "is_tune", "is_tune", defArgs s_is_tune, defBody s_is_tune, defScope s_is_tune, [], []⟩
def d_need_tune : He.DefD := ⟨("need_tune", none), "need_tune", "need_tune", defArgs s_need_tune, defBody s_need_tune, defScope s_need_tune, [], []⟩
def d_begins_of : He.DefD := ⟨("begins_of", none), "begins_of", "begins_of", defArgs s_begins_of, defBody s_begins_of, defScope s_begins_of, [], []⟩
def d_bar_at : He.DefD := ⟨("bar_at", none), "bar_at", "bar_at", defArgs s_bar_at, defBody s_bar_at, defScope s_bar_at, [], []⟩
def d__law_cell_at : He.DefD := ⟨("_law_cell_at", none), "_law_cell_at", "_law_cell_at", defArgs s__law_cell_at, defBody s__law_cell_at, defScope s__law_cell_at, [], []⟩
def d__law_pen : He.DefD := ⟨("_law_pen", none), "_law_pen", "_law_pen", defArgs s__law_pen, defBody s__law_pen, defScope s__law_pen, [], []⟩
def d__law_draw : He.DefD := ⟨("_law_draw", none), "_law_draw", "_law_draw", defArgs s__law_draw, defBody s__law_draw, defScope s__law_draw, [], []⟩
def d__law_pick : He.DefD := ⟨("_law_pick", none), "_law_pick", "_law_pick", defArgs s__law_pick, defBody s__law_pick, defScope s__law_pick, [], []⟩
def d__law_tune : He.DefD := ⟨("_law_tune", none), "_law_tune", "_law_tune", defArgs s__law_tune, defBody s__law_tune, defScope s__law_tune, [], []⟩
def d__law_walk : He.DefD := ⟨("_law_walk", none), "_law_walk", "_law_walk", defArgs s__law_walk, defBody s__law_walk, defScope s__law_walk, [], []⟩
def d_law : He.DefD := ⟨("law", none), "law", "law", defArgs s_law, defBody s_law, defScope s_law, [], []⟩
def fn0 : List He.DefD := [d_is_whole, d_is_among, d_is_row, d_is_tune, d_need_tune, d_begins_of, d_bar_at, d__law_cell_at, d__law_pen, d__law_draw, d__law_pick, d__law_tune, d__law_walk, d_law]
def fn : List He.DefD := fn0
def fa0 : List He.Fa := [.glo "is_whole", .glo "is_among", .glo "is_row", .glo "is_tune", .glo "need_tune", .glo "begins_of", .glo "bar_at", .glo "_law_cell_at", .glo "_law_pen", .glo "_law_draw", .glo "_law_pick", .glo "_law_tune", .glo "_law_walk", .glo "law", .free "all", .free "bool", .free "int", .free "isinstance", .free "len", .free "max"]
def fa1 : List He.Fa := [.free "min", .free "range", .free "repr", .free "sum", .free "tuple", .int "MOST_BARS" 8, .int "MOST_LONG" 12]
def fa : List He.Fa := fa0 ++ fa1
def loose0 : List Str := ["is_whole", "is_among", "is_row", "is_tune", "need_tune", "begins_of", "bar_at", "_law_cell_at", "_law_pen", "_law_draw", "_law_pick", "_law_tune", "_law_walk", "MOST_BARS", "MOST_LONG", "DomeError", "NoBeats", "NoTune"]
def loose : List Str := loose0
abbrev RR : PySem.W.OpenRow := PySem.W.OpenLaw.row PySem.Challenge.rw_domelights_k33_bars_of_beats
abbrev hk : PySem.W.Hook := He.hookD 4 fa fn
def ob (s : PySem.W.SharedT) : He.AlD := He.obsDG 4 fa fn (HandSHeadRun.getT s)
theorem ob_eq (s : PySem.W.SharedT) : ob s = hk.obs s.abs := He.obsDG_eq (HandSHeadRun.getT_eq s)
theorem run (w : World) : HandSHeadRun.RunEq RR (PySem.W.view RR.prog [22]) hk ob 40000 loose w := by
  intro os
  kernel_rfl
structure DL (K : PySem.W.Frag) (mg : Str → Option Value) : Prop where
  d_is_whole : ∃ fd, DQ K mg "is_whole" (defArgs s_is_whole) (defBody s_is_whole) (defScope s_is_whole) ["thing"] ["thing"] (He.ga K "is_whole") fd
  d_is_among : ∃ fd, DQ K mg "is_among" (defArgs s_is_among) (defBody s_is_among) (defScope s_is_among) ["thing", "low", "high"] ["thing", "low", "high"] (He.ga K "is_among") fd
  d_is_row : ∃ fd, DQ K mg "is_row" (defArgs s_is_row) (defBody s_is_row) (defScope s_is_row) ["thing", "low", "high"] ["thing", "low", "high"] (He.ga K "is_row") fd
  d_is_tune : ∃ fd, DQ K mg "is_tune" (defArgs s_is_tune) (defBody s_is_tune) (defScope s_is_tune) ["thing", "bar"] ["thing"] (He.ga K "is_tune") fd
  d_need_tune : ∃ fd, DQ K mg "need_tune" (defArgs s_need_tune) (defBody s_need_tune) (defScope s_need_tune) ["thing"] ["thing"] (He.ga K "need_tune") fd
  d_begins_of : ∃ fd, DQ K mg "begins_of" (defArgs s_begins_of) (defBody s_begins_of) (defScope s_begins_of) ["tune", "number"] ["tune"] (He.ga K "begins_of") fd
  d_bar_at : ∃ fd, DQ K mg "bar_at" (defArgs s_bar_at) (defBody s_bar_at) (defScope s_bar_at) ["tune", "beat", "left", "number", "begin"] ["tune", "beat"] (He.ga K "bar_at") fd
  d__law_cell_at : ∃ fd, DQ K mg "_law_cell_at" (defArgs s__law_cell_at) (defBody s__law_cell_at) (defScope s__law_cell_at) ["_law_script", "_law_k"] ["_law_script", "_law_k"] (He.ga K "_law_cell_at") fd
  d__law_pen : ∃ fd, DQ K mg "_law_pen" (defArgs s__law_pen) (defBody s__law_pen) (defScope s__law_pen) ["_law_cell"] ["_law_cell"] (He.ga K "_law_pen") fd
  d__law_draw : ∃ fd, DQ K mg "_law_draw" (defArgs s__law_draw) (defBody s__law_draw) (defScope s__law_draw) ["_law_pen_here", "_law_many", "_law_found", "_law_stirred"] ["_law_pen_here", "_law_many"] (He.ga K "_law_draw") fd
  d__law_pick : ∃ fd, DQ K mg "_law_pick" (defArgs s__law_pick) (defBody s__law_pick) (defScope s__law_pick) ["_law_pen_here", "_law_some"] ["_law_pen_here", "_law_some"] (He.ga K "_law_pick") fd
  d__law_tune : ∃ fd, DQ K mg "_law_tune" (defArgs s__law_tune) (defBody s__law_tune) (defScope s__law_tune) ["_law_pen_here", "_law_most", "_law_bar"] ["_law_pen_here"] (He.ga K "_law_tune") fd
  d__law_walk : ∃ fd, DQ K mg "_law_walk" (defArgs s__law_walk) (defBody s__law_walk) (defScope s__law_walk) ["_law_tune_here", "_law_many", "_law_found", "_law_bar", "_law_ahead", "_law_beat"] ["_law_tune_here", "_law_many"] (He.ga K "_law_walk") fd
  d_law : ∃ fd, DQ K mg "law" (defArgs s_law) (defBody s_law) (defScope s_law) ["_law_script", "_law_k", "_law_pen_here", "_law_tune_here", "_law_kept", "_law_whole", "_law_walk_here", "_law_lap", "_law_far", "_law_beat"] ["_law_script"] (He.ga K "law") fd
theorem facts {K : PySem.W.Frag} {h : Heap} {mg : Str → Option Value} (X : K.In h) (G : h.Ns mainGlobals mg) (c : He.SaysD fa fn K) : GL K mg ∧ DL K mg := by
  refine ⟨⟨?_, ?_, ?_, ?_, ?_, ?_, ?_, ?_, ?_, ?_, ?_, ?_, ?_⟩, ⟨?_, ?_, ?_, ?_, ?_, ?_, ?_, ?_, ?_, ?_, ?_, ?_, ?_, ?_⟩⟩
  · exact He.free_ok X G (c.fact 14 (f := .free "all") rfl)
  · exact He.free_ok X G (c.fact 15 (f := .free "bool") rfl)
  · exact He.free_ok X G (c.fact 16 (f := .free "int") rfl)
  · exact He.free_ok X G (c.fact 17 (f := .free "isinstance") rfl)
  · exact He.free_ok X G (c.fact 18 (f := .free "len") rfl)
  · exact He.free_ok X G (c.fact 19 (f := .free "max") rfl)
  · exact He.free_ok X G (c.fact 20 (f := .free "min") rfl)
  · exact He.free_ok X G (c.fact 21 (f := .free "range") rfl)
  · exact He.free_ok X G (c.fact 22 (f := .free "repr") rfl)
  · exact He.free_ok X G (c.fact 23 (f := .free "sum") rfl)
  · exact He.free_ok X G (c.fact 24 (f := .free "tuple") rfl)
  · exact He.int_ok X G (c.fact 25 (f := .int "MOST_BARS" 8) rfl)
  · exact He.int_ok X G (c.fact 26 (f := .int "MOST_LONG" 12) rfl)
  · obtain ⟨fd, F⟩ := c.def_ 0 (d := d_is_whole) rfl
    exact ⟨fd, F, sc_is_whole, He.glo_ok X G (c.fact 0 (f := .glo "is_whole") rfl), F.bindsN fun _ _ _ _ _ _ us hl => match us, hl with | [_], _ => rfl⟩
  · obtain ⟨fd, F⟩ := c.def_ 1 (d := d_is_among) rfl
    exact ⟨fd, F, sc_is_among, He.glo_ok X G (c.fact 1 (f := .glo "is_among") rfl), F.bindsN fun _ _ _ _ _ _ us hl => match us, hl with | [_, _, _], _ => rfl⟩
  · obtain ⟨fd, F⟩ := c.def_ 2 (d := d_is_row) rfl
    exact ⟨fd, F, sc_is_row, He.glo_ok X G (c.fact 2 (f := .glo "is_row") rfl), F.bindsN fun _ _ _ _ _ _ us hl => match us, hl with | [_, _, _], _ => rfl⟩
  · obtain ⟨fd, F⟩ := c.def_ 3 (d := d_is_tune) rfl
    exact ⟨fd, F, sc_is_tune, He.glo_ok X G (c.fact 3 (f := .glo "is_tune") rfl), F.bindsN fun _ _ _ _ _ _ us hl => match us, hl with | [_], _ => rfl⟩
  · obtain ⟨fd, F⟩ := c.def_ 4 (d := d_need_tune) rfl
    exact ⟨fd, F, sc_need_tune, He.glo_ok X G (c.fact 4 (f := .glo "need_tune") rfl), F.bindsN fun _ _ _ _ _ _ us hl => match us, hl with | [_], _ => rfl⟩
  · obtain ⟨fd, F⟩ := c.def_ 5 (d := d_begins_of) rfl
    exact ⟨fd, F, sc_begins_of, He.glo_ok X G (c.fact 5 (f := .glo "begins_of") rfl), F.bindsN fun _ _ _ _ _ _ us hl => match us, hl with | [_], _ => rfl⟩
  · obtain ⟨fd, F⟩ := c.def_ 6 (d := d_bar_at) rfl
    exact ⟨fd, F, sc_bar_at, He.glo_ok X G (c.fact 6 (f := .glo "bar_at") rfl), F.bindsN fun _ _ _ _ _ _ us hl => match us, hl with | [_, _], _ => rfl⟩
  · obtain ⟨fd, F⟩ := c.def_ 7 (d := d__law_cell_at) rfl
    exact ⟨fd, F, sc__law_cell_at, He.glo_ok X G (c.fact 7 (f := .glo "_law_cell_at") rfl), F.bindsN fun _ _ _ _ _ _ us hl => match us, hl with | [_, _], _ => rfl⟩
  · obtain ⟨fd, F⟩ := c.def_ 8 (d := d__law_pen) rfl
    exact ⟨fd, F, sc__law_pen, He.glo_ok X G (c.fact 8 (f := .glo "_law_pen") rfl), F.bindsN fun _ _ _ _ _ _ us hl => match us, hl with | [_], _ => rfl⟩
  · obtain ⟨fd, F⟩ := c.def_ 9 (d := d__law_draw) rfl
    exact ⟨fd, F, sc__law_draw, He.glo_ok X G (c.fact 9 (f := .glo "_law_draw") rfl), F.bindsN fun _ _ _ _ _ _ us hl => match us, hl with | [_, _], _ => rfl⟩
  · obtain ⟨fd, F⟩ := c.def_ 10 (d := d__law_pick) rfl
    exact ⟨fd, F, sc__law_pick, He.glo_ok X G (c.fact 10 (f := .glo "_law_pick") rfl), F.bindsN fun _ _ _ _ _ _ us hl => match us, hl with | [_, _], _ => rfl⟩
  · obtain ⟨fd, F⟩ := c.def_ 11 (d := d__law_tune) rfl
    exact ⟨fd, F, sc__law_tune, He.glo_ok X G (c.fact 11 (f := .glo "_law_tune") rfl), F.bindsN fun _ _ _ _ _ _ us hl => match us, hl with | [_], _ => rfl⟩
  · obtain ⟨fd, F⟩ := c.def_ 12 (d := d__law_walk) rfl
    exact ⟨fd, F, sc__law_walk, He.glo_ok X G (c.fact 12 (f := .glo "_law_walk") rfl), F.bindsN fun _ _ _ _ _ _ us hl => match us, hl with | [_, _], _ => rfl⟩
  · obtain ⟨fd, F⟩ := c.def_ 13 (d := d_law) rfl
    exact ⟨fd, F, sc_law, He.glo_ok X G (c.fact 13 (f := .glo "law") rfl), F.bindsN fun _ _ _ _ _ _ us hl => match us, hl with | [_], _ => rfl⟩
section
variable {P : Program} {w : World} {K : PySem.W.Frag} {mg : Str → Option Value} {base : Heap}
theorem all_k (g : GL K mg) (D : DL K mg) : ∀ k, CL P w K mg base (callQ T k) k
  | 0 => ⟨D.d_is_whole.elim fun _ d => fn_zero d, D.d_is_among.elim fun _ d => fn_zero d, D.d_is_row.elim fun _ d => fn_zero d, D.d_is_tune.elim fun _ d => fn_zero d, D.d_need_tune.elim fun _ d => fn_zero d, D.d_begins_of.elim fun _ d => fn_zero d, D.d_bar_at.elim fun _ d => fn_zero d, D.d__law_cell_at.elim fun _ d => fn_zero d, D.d__law_pen.elim fun _ d => fn_zero d, D.d__law_draw.elim fun _ d => fn_zero d, D.d__law_pick.elim fun _ d => fn_zero d, D.d__law_tune.elim fun _ d => fn_zero d, D.d__law_walk.elim fun _ d => fn_zero d, D.d_law.elim fun _ d => fn_zero d⟩
  | k + 1 => by
    have C := all_k g D k
    exact ⟨D.d_is_whole.elim fun _ d => fn_succ d T_is_whole rfl rfl (by decide) fun _ _ _ _ _ _ hA hr => ok_is_whole g C hA hr,
      D.d_is_among.elim fun _ d => fn_succ d T_is_among rfl rfl (by decide) fun _ _ _ _ _ _ hA hr => ok_is_among g C hA hr,
      D.d_is_row.elim fun _ d => fn_succ d T_is_row rfl rfl (by decide) fun _ _ _ _ _ _ hA hr => ok_is_row g C hA hr,
      D.d_is_tune.elim fun _ d => fn_succ d T_is_tune rfl rfl (by decide) fun _ _ _ _ _ _ hA hr => ok_is_tune g C hA hr,
      D.d_need_tune.elim fun _ d => fn_succ d T_need_tune rfl rfl (by decide) fun _ _ _ _ _ _ hA hr => ok_need_tune g C hA hr,
      D.d_begins_of.elim fun _ d => fn_succ d T_begins_of rfl rfl (by decide) fun _ _ _ _ _ _ hA hr => ok_begins_of g C hA hr,
      D.d_bar_at.elim fun _ d => fn_succ d T_bar_at rfl rfl (by decide) fun _ _ _ _ _ _ hA hr => ok_bar_at g C hA hr,
      D.d__law_cell_at.elim fun _ d => fn_succ d T__law_cell_at rfl rfl (by decide) fun _ _ _ _ _ _ hA hr => ok__law_cell_at g C hA hr,
      D.d__law_pen.elim fun _ d => fn_succ d T__law_pen rfl rfl (by decide) fun _ _ _ _ _ _ hA hr => ok__law_pen g C hA hr,
      D.d__law_draw.elim fun _ d => fn_succ d T__law_draw rfl rfl (by decide) fun _ _ _ _ _ _ hA hr => ok__law_draw g C hA hr,
      D.d__law_pick.elim fun _ d => fn_succ d T__law_pick rfl rfl (by decide) fun _ _ _ _ _ _ hA hr => ok__law_pick g C hA hr,
      D.d__law_tune.elim fun _ d => fn_succ d T__law_tune rfl rfl (by decide) fun _ _ _ _ _ _ hA hr => ok__law_tune g C hA hr,
      D.d__law_walk.elim fun _ d => fn_succ d T__law_walk rfl rfl (by decide) fun _ _ _ _ _ _ hA hr => ok__law_walk g C hA hr,
      D.d_law.elim fun _ d => fn_succ d T_law rfl rfl (by decide) fun _ _ _ _ _ _ hA hr => ok_law g C hA hr⟩
end
end Q

open PySem PySem.W PySem.Calls PyProof.Rows
theorem PySem.Challenge.cw_domelights_k33_bars_of_beats_holds : PySem.Challenge.rw_domelights_k33_bars_of_beats.Holds := by
  w_on; o_law
  refine HandSHeadRun.head_any (r := OpenLaw.row PySem.Challenge.rw_domelights_k33_bars_of_beats) (q := view (OpenLaw.row PySem.Challenge.rw_domelights_k33_bars_of_beats).prog [22]) (H := Q.hk) (ob := Q.ob) (M := 40000) (loose := Q.loose) (d := HandSHeadRun.topDef (OpenLaw.row PySem.Challenge.rw_domelights_k33_bars_of_beats).prog 22) (kwd := []) Q.ob_eq
    (by kernel_rfl) (fun s => by kernel_rfl) Q.run (by kernel_rfl) (by kernel_rfl) (by kernel_rfl) (by rfl) (by first | assumption | decide +kernel) (by decide +kernel) ⟨rfl, rfl, rfl, rfl, rfl, by decide +kernel⟩ ?hw ?hc
  case hw => w_witness2
  case hc =>
    refine Q.walk_G (l := PySem.Challenge.rw_domelights_k33_bars_of_beats) (n := 63) (k := 40) (x := "_law_script") rfl (by decide) (by kernel_rfl) ⟨rfl, by decide, by decide⟩ ?F
    intro w mg fa h Y G hmg0
    obtain ⟨K, KX, c⟩ := Y
    have hmg : mg ("law" : PySem.Str) = some (.ref fa) := by
      have e : (HandSHeadRun.topDef (OpenLaw.row PySem.Challenge.rw_domelights_k33_bars_of_beats).prog 22).name = ("law" : PySem.Str) := by kernel_rfl
      rw [← e]
      exact hmg0
    obtain ⟨g, D⟩ := Q.facts KX G c
    obtain ⟨fd, dl⟩ := D.d_law
    have e := hmg.symm.trans dl.g
    cases e
    have b := L2.FunD.bindsA (ps := ["_law_script"]) dl.F fun _ _ _ _ _ _ us hl => match us, hl with | [_], _ => rfl
    exact ⟨K, fd, _, KX, fun s v => b s [v] rfl, fun H a ns hl hO hS => Q.law_sp (mg := mg) (k := 40) Q.law_true H a ns hl hO hS,
      fun base _ _ => Q.fn_succG dl Q.T_law rfl rfl (by decide) fun _ _ _ _ _ _ hA hr => Q.ok_law g (Q.all_k g D 39) hA hr⟩
