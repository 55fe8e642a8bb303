import PyProof.Rows.All
import Wide.All
import OpenK.AllK
import Wide.FinOn
import HandS.ForMost
import HandS.Wide
import HandS.WideBits
import HandS.TupAny
import HandS.TupLe
import HandS.IsInst
import HandS.RaiseMore
import HandS.Property
import HandS.MakeKw
import HandS.Defaults
import HandS.SetFor
import HandS.Strs
import HandS.SortInts
import HandS.Style
import HandS.More
import HandS.Deep
import HandS.Text
import HandS.DeepEq
import HandS.DictEq
import HandS.DictComp
import HandS.ForExc
import HandS.TryMany
import HandS.ExcInit
import KE.KExcSuper
import KE.KSuper
import HandS.ExcField
import HandS.TupSets
import PyProof.StrLawsRepr
import KE.DataCmp
import PySem.Challenge.RW_leafwaits_k02_rules_made
import KE.RegKIsAll
set_option Elab.async false
set_option linter.all false
set_option maxRecDepth 100000
set_option maxHeartbeats 4000000
/-! LwA: plain data for what stands in the heap; the relation of an environment of plain data with a frame; readings by plain functions. -/
namespace LW
open PySem L2

/-- plain data. fro: a list that nobody may write; cell k: the k-th list that may still change; obj: an instance that changes no more -/
inductive D where
  | non | bl (b : Bool) | int (i : Int) | str (x : Str) | ty (n : String)
  | tup (xs : List D) | lst (xs : List D) | fro (xs : List D) | cell (k : Nat)
  | obj (c : Str) (ns : List Str) (vs : List D) | cls (c : Str)
  | dic (ks : List Key) (vs : List D) | dit (ks : List (List Key)) (vs : List D)
  deriving Inhabited

/-- what the module's names hold; the written part -/
structure Glob where
  mg : Str → Option Value
  K : PySem.W.Frag
/-- the protected addresses: they may still change -/
abbrev Prot := Addr → Prop
abbrev Sto := List (List D)

mutual
inductive Rep (mg : Glob) (N : Prot) (c : List Addr) (H : Hp) : V → D → Prop where
  | non : Rep mg N c H .non .non
  | bl (b : Bool) : Rep mg N c H (.bl b) (.bl b)
  | int (i : Int) : Rep mg N c H (.int i) (.int i)
  | str (x : Str) : Rep mg N c H (.str x) (.str x)
  | ty (n : String) : Rep mg N c H (.ty n) (.ty n)
  | cls {cn : Str} {C : Addr} (h : mg.mg cn = some (.ref C)) : Rep mg N c H (.ref C) (.cls cn)
  | tup {a : Addr} {vs : List V} {ds : List D} (h : H a = some (.tup vs)) (n : ¬ N a) (r : RepL mg N c H vs ds) : Rep mg N c H (.ref a) (.tup ds)
  | lst {a : Addr} {vs : List V} {ds : List D} (h : H a = some (.lst vs)) (n : ¬ N a) (r : RepL mg N c H vs ds) : Rep mg N c H (.ref a) (.lst ds)
  | fro {a : Addr} {o : Obj} {vs : List V} {ds : List D} (h : H a = some (.frz o (.lst vs))) (n : ¬ N a) (r : RepL mg N c H vs ds) : Rep mg N c H (.ref a) (.fro ds)
  | kro {a : Addr} {ns : List Int} (h : ∀ H' : Hp, SqL mg.K H' a (ns.map V.int)) : Rep mg N c H (.ref a) (.fro (ns.map D.int))
  | cell {k : Nat} {a : Addr} (h : c[k]? = some a) : Rep mg N c H (.ref a) (.cell k)
  | obj {a C dx : Addr} {fs : List (Str × V)} {cn : Str} {ns : List Str} {ds : List D} (hc : mg.mg cn = some (.ref C)) (h : H a = some (.ins C dx fs)) (n : ¬ N a) (hn : fs.map (·.1) = ns) (r : RepL mg N c H (fs.map (·.2)) ds) : Rep mg N c H (.ref a) (.obj cn ns ds)
  | dic {a : Addr} {kvs : List (Key × V)} {ks : List Key} {ds : List D} (h : H a = some (.dK kvs)) (n : ¬ N a) (hn : kvs.map (·.1) = ks) (r : RepL mg N c H (kvs.map (·.2)) ds) : Rep mg N c H (.ref a) (.dic ks ds)
  | dfz {a : Addr} {o : Obj} {kvs : List (Key × V)} {ks : List Key} {ds : List D} (h : H a = some (.frz o (.dK kvs))) (n : ¬ N a) (hn : kvs.map (·.1) = ks) (r : RepL mg N c H (kvs.map (·.2)) ds) : Rep mg N c H (.ref a) (.dic ks ds)
  | dit {a : Addr} {kvs : List (List Key × V)} {ks : List (List Key)} {ds : List D} (h : H a = some (.dT kvs)) (n : ¬ N a) (hn : kvs.map (·.1) = ks) (r : RepL mg N c H (kvs.map (·.2)) ds) : Rep mg N c H (.ref a) (.dit ks ds)
inductive RepL (mg : Glob) (N : Prot) (c : List Addr) (H : Hp) : List V → List D → Prop where
  | nil : RepL mg N c H [] []
  | cons {v : V} {d : D} {vs : List V} {ds : List D} (h : Rep mg N c H v d) (t : RepL mg N c H vs ds) : RepL mg N c H (v :: vs) (d :: ds)
end

/-- a step of the heap as data sees it -/
structure Tr (N : Prot) (c : List Addr) (H : Hp) (N' : Prot) (c' : List Addr) (H' : Hp) : Prop where
  keep : ∀ a o, H a = some o → ¬ N a → H' a = some o
  new : ∀ a, N' a → N a ∨ H a = none
  pre : ∀ (k : Nat) a, c[k]? = some a → c'[k]? = some a
section
variable {mg : Glob} {N N' : Prot} {c c' : List Addr} {H H' : Hp}
theorem Tr.own (t : Tr N c H N' c' H') {a : Addr} {u : HO} (h : H a = some u) (n : ¬ N a) : H' a = some u ∧ ¬ N' a :=
  ⟨t.keep _ _ h n, fun z => (t.new a z).elim n fun e => by rw [h] at e; cases e⟩
mutual
theorem Rep.tr {v : V} {d : D} (t : Tr N c H N' c' H') : Rep mg N c H v d → Rep mg N' c' H' v d
  | .non => .non
  | .bl b => .bl b
  | .int i => .int i
  | .str x => .str x
  | .ty n => .ty n
  | .cls h => .cls h
  | .tup h n r => .tup (t.own h n).1 (t.own h n).2 (RepL.tr t r)
  | .lst h n r => .lst (t.own h n).1 (t.own h n).2 (RepL.tr t r)
  | .fro h n r => .fro (t.own h n).1 (t.own h n).2 (RepL.tr t r)
  | .kro h => .kro h
  | .cell h => .cell (t.pre _ _ h)
  | .obj hc h n hn r => .obj hc (t.own h n).1 (t.own h n).2 hn (RepL.tr t r)
  | .dic h n hn r => .dic (t.own h n).1 (t.own h n).2 hn (RepL.tr t r)
  | .dfz h n hn r => .dfz (t.own h n).1 (t.own h n).2 hn (RepL.tr t r)
  | .dit h n hn r => .dit (t.own h n).1 (t.own h n).2 hn (RepL.tr t r)
theorem RepL.tr {vs : List V} {ds : List D} (t : Tr N c H N' c' H') : RepL mg N c H vs ds → RepL mg N' c' H' vs ds
  | .nil => .nil
  | .cons h r => .cons (Rep.tr t h) (RepL.tr t r)
end
theorem RepL.length {vs : List V} {ds : List D} : RepL mg N c H vs ds → vs.length = ds.length
  | .nil => rfl
  | .cons _ r => by rw [List.length_cons, List.length_cons, RepL.length r]
theorem RepL.get {vs : List V} {ds : List D} : ∀ {i : Nat} {d : D}, RepL mg N c H vs ds → ds[i]? = some d → ∃ v, vs[i]? = some v ∧ Rep mg N c H v d
  | _, _, .nil, e => by simp at e
  | 0, _, .cons h _, e => by simp at e; subst e; exact ⟨_, rfl, h⟩
  | i + 1, d, .cons _ r, e => by
    obtain ⟨v, h1, h2⟩ := RepL.get (i := i) (d := d) r (by simpa using e)
    exact ⟨v, by simpa using h1, h2⟩
theorem RepL.getV {vs : List V} {ds : List D} : ∀ {i : Nat} {v : V}, RepL mg N c H vs ds → vs[i]? = some v → ∃ d, ds[i]? = some d ∧ Rep mg N c H v d
  | _, _, .nil, e => by simp at e
  | 0, _, .cons h _, e => by simp at e; subst e; exact ⟨_, rfl, h⟩
  | i + 1, v, .cons _ r, e => by
    obtain ⟨d, h1, h2⟩ := RepL.getV (i := i) (v := v) r (by simpa using e)
    exact ⟨d, by simpa using h1, h2⟩
theorem RepL.append {vs us : List V} {ds es : List D} : RepL mg N c H vs ds → RepL mg N c H us es → RepL mg N c H (vs ++ us) (ds ++ es)
  | .nil, s => s
  | .cons h r, s => .cons h (RepL.append r s)
theorem RepL.take {vs : List V} {ds : List D} : ∀ (n : Nat), RepL mg N c H vs ds → RepL mg N c H (vs.take n) (ds.take n)
  | 0, _ => .nil
  | _ + 1, .nil => .nil
  | n + 1, .cons h r => .cons h (RepL.take n r)
theorem RepL.drop {vs : List V} {ds : List D} : ∀ (n : Nat), RepL mg N c H vs ds → RepL mg N c H (vs.drop n) (ds.drop n)
  | 0, r => r
  | _ + 1, .nil => .nil
  | n + 1, .cons _ r => RepL.drop n r
theorem RepL.set {v : V} {d : D} (h : Rep mg N c H v d) {vs : List V} {ds : List D} : ∀ (n : Nat), RepL mg N c H vs ds → RepL mg N c H (vs.set n v) (ds.set n d)
  | _, .nil => .nil
  | 0, .cons _ r => .cons h r
  | n + 1, .cons q r => .cons q (RepL.set h n r)
theorem RepL.reverse {vs : List V} {ds : List D} : RepL mg N c H vs ds → RepL mg N c H vs.reverse ds.reverse
  | .nil => .nil
  | .cons h r => by
    rw [List.reverse_cons, List.reverse_cons]
    exact (RepL.reverse r).append (.cons h .nil)
theorem RepL.ints : ∀ (ns : List Int), RepL mg N c H (ns.map V.int) (ns.map D.int)
  | [] => .nil
  | n :: r => .cons (.int n) (RepL.ints r)
theorem RepL.of_ints : ∀ {ns : List Int} {vs : List V}, RepL mg N c H vs (ns.map D.int) → vs = ns.map V.int
  | [], _, .nil => rfl
  | n :: r, _, .cons (.int _) t => by rw [RepL.of_ints t]; rfl
end

/-- a step of an expression: all that is no cell stays -/
structure Ex (N : Prot) (c : List Addr) (H : Hp) (N' : Prot) (c' : List Addr) (H' : Hp) : Prop where
  keep : ∀ a o, H a = some o → a ∉ c → H' a = some o
  new : ∀ a, N' a → N a ∨ H a = none
  mono : ∀ a, N a → N' a
  pre : ∀ (k : Nat) a, c[k]? = some a → c'[k]? = some a
  newc : ∀ a, a ∈ c' → a ∈ c ∨ H a = none
/-- the cells and the protected addresses stand well -/
structure Wd (mg : Glob) (N : Prot) (c : List Addr) (H : Hp) (st : Sto) : Prop where
  len : c.length = st.length
  sto : ∀ (k : Nat) a xs, c[k]? = some a → st[k]? = some xs → ∃ vs, H a = some (.lst vs) ∧ RepL mg N c H vs xs
  cn : ∀ a, a ∈ c → N a
  nd : c.Nodup
  trk : ∀ a, N a → H a ≠ none
section
variable {mg : Glob} {N N' N'' : Prot} {c c' c'' : List Addr} {H H' H'' : Hp} {st st' : Sto}
theorem Ex.refl : Ex N c H N c H := ⟨fun _ _ h _ => h, fun _ h => .inl h, fun _ h => h, fun _ _ h => h, fun _ h => .inl h⟩
theorem Ex.nc (x : Ex N c H N' c' H') (W : Wd mg N c H st) {a : Addr} {o : HO} (h : H a = some o) (n : a ∉ c) : a ∉ c' := fun z => (x.newc a z).elim n fun e => by rw [h] at e; cases e
theorem Ex.trans (x : Ex N c H N' c' H') (y : Ex N' c' H' N'' c'' H'') (W : Wd mg N c H st) : Ex N c H N'' c'' H'' where
  keep := fun a o h n => y.keep a o (x.keep a o h n) (x.nc W h n)
  new := fun a z => (y.new a z).elim (x.new a) fun e => by
    cases q : H a with
    | none => exact .inr rfl
    | some o =>
      by_cases hn : a ∈ c
      · exact .inl (W.cn a hn)
      · rw [x.keep a o q hn] at e; cases e
  mono := fun a z => y.mono a (x.mono a z)
  pre := fun k a h => y.pre k a (x.pre k a h)
  newc := fun a z => (y.newc a z).elim (x.newc a) fun e => by
    cases q : H a with
    | none => exact .inr rfl
    | some o =>
      by_cases hn : a ∈ c
      · exact .inl hn
      · rw [x.keep a o q hn] at e; cases e
theorem Ex.tr (x : Ex N c H N' c' H') (W : Wd mg N c H st) : Tr N c H N' c' H' := ⟨fun a o h n => x.keep a o h fun z => n (W.cn a z), x.new, x.pre⟩
theorem Ex.free (x : Ex N c H N' c' H') (W : Wd mg N c H st) (W' : Wd mg N' c' H' st') {a : Addr} (h : H' a = none) : H a = none := by
  cases q : H a with
  | none => rfl
  | some o =>
    by_cases hn : a ∈ c
    · exact absurd h (W'.trk a (x.mono a (W.cn a hn)))
    · rw [x.keep a o q hn] at h; cases h
theorem Wd.nsome (W : Wd mg N c H st) {a : Addr} (h : H a = none) : ¬ N a := fun z => W.trk a z h
theorem Wd.cnone (W : Wd mg N c H st) {a : Addr} (h : H a = none) : a ∉ c := fun z => W.trk a (W.cn a z) h
/-- an object is laid: as data -/
theorem Ex.laid (W : Wd mg N c H st) {p : Addr} {o : HO} (hp : H p = none) : Ex N c H N c (upd H p o) where
  keep := fun a u h _ => by rw [upd_ne (ne_of_none h hp)]; exact h
  new := fun _ h => .inl h
  mono := fun _ h => h
  pre := fun _ _ h => h
  newc := fun _ h => .inl h
/-- an object is laid and protected -/
theorem Ex.laidN (W : Wd mg N c H st) {p : Addr} {o : HO} (hp : H p = none) : Ex N c H (fun a => N a ∨ a = p) c (upd H p o) where
  keep := fun a u h _ => by rw [upd_ne (ne_of_none h hp)]; exact h
  new := fun a h => h.elim .inl fun e => by rw [e]; exact .inr hp
  mono := fun _ h => .inl h
  pre := fun _ _ h => h
  newc := fun _ h => .inl h
theorem Wd.ex0 (W : Wd mg N c H st) (x : Ex N c H N' c H') (hk : ∀ a o, H a = some o → H' a = some o) (hn : ∀ a, N' a → H' a ≠ none) : Wd mg N' c H' st :=
  ⟨W.len, fun k a xs h1 h2 => let ⟨vs, e, r⟩ := W.sto k a xs h1 h2; ⟨vs, hk _ _ e, r.tr (x.tr W)⟩, fun a h => x.mono a (W.cn a h), W.nd, hn⟩
theorem Wd.laid (W : Wd mg N c H st) {p : Addr} {o : HO} (hp : H p = none) : Wd mg N c (upd H p o) st :=
  W.ex0 (Ex.laid W hp) (fun a u h => by rw [upd_ne (ne_of_none h hp)]; exact h) fun a h e => by
    by_cases q : a = p
    · rw [q, upd_same] at e; cases e
    · rw [upd_ne q] at e; exact W.trk a h e
theorem Wd.laidN (W : Wd mg N c H st) {p : Addr} {o : HO} (hp : H p = none) : Wd mg (fun a => N a ∨ a = p) c (upd H p o) st :=
  W.ex0 (Ex.laidN W hp) (fun a u h => by rw [upd_ne (ne_of_none h hp)]; exact h) fun a h e => by
    by_cases q : a = p
    · rw [q, upd_same] at e; cases e
    · rw [upd_ne q] at e
      exact h.elim (fun z => W.trk a z e) q
/-- fewer protected ones -/
theorem Tr.less (h : ∀ a, N' a → N a) : Tr N c H N' c H := ⟨fun _ _ e _ => e, fun a z => .inl (h a z), fun _ _ e => e⟩
theorem Wd.less (W : Wd mg N c H st) (h : ∀ a, N' a → N a) (hc : ∀ a, a ∈ c → N' a) : Wd mg N' c H st :=
  ⟨W.len, fun k a xs h1 h2 => let ⟨vs, e, r⟩ := W.sto k a xs h1 h2; ⟨vs, e, r.tr (Tr.less h)⟩, hc, W.nd, fun a z => W.trk a (h a z)⟩
end

/-! ### slots and environments -/
/-- a slot: unknown; data; a list, an instance that this frame alone holds and may change -/
inductive Sl where
  | un | val (d : D) | own (xs : List D) | ownI (c : Str) (ns : List Str) (vs : List D) | ownD (ks : List Key) (vs : List D)
  deriving Inhabited
abbrev Env := List Sl
def Sl.isOwn : Sl → Bool
  | .own _ => true
  | .ownI _ _ _ => true
  | .ownD _ _ => true
  | _ => false
def SlR (mg : Glob) (N : Prot) (c : List Addr) (H : Hp) : Sl → Option V → Prop
  | .un, _ => True
  | .val d, o => ∃ v, o = some v ∧ Rep mg N c H v d
  | .own xs, o => ∃ a vs, o = some (.ref a) ∧ H a = some (.lst vs) ∧ RepL mg N c H vs xs
  | .ownI cn ns ds, o => ∃ a C dx fs, o = some (.ref a) ∧ mg.mg cn = some (.ref C) ∧ H a = some (.ins C dx fs) ∧ fs.map (·.1) = ns ∧ RepL mg N c H (fs.map (·.2)) ds
  | .ownD ks ds, o => ∃ a kvs, o = some (.ref a) ∧ H a = some (.dK kvs) ∧ kvs.map (·.1) = ks ∧ RepL mg N c H (kvs.map (·.2)) ds
/-- the entry of a def -/
structure En where
  H0 : Hp
  N0 : Prot
  c0 : List Addr
  self : Option Addr
structure Rel (mg : Glob) (E : En) (N : Prot) (c : List Addr) (env : Env) (st : Sto) (σ : L2.St) (H : Hp) : Prop where
  len : σ.length = env.length
  sl : ∀ (i : Nat) s, env[i]? = some s → SlR mg N c H s (σ[i]?.join)
  own : ∀ (i : Nat) s a, env[i]? = some s → s.isOwn = true → σ[i]? = some (some (.ref a)) → N a ∧ a ∉ c ∧ E.H0 a = none
  inj : ∀ (i j : Nat) s s' a, env[i]? = some s → s.isOwn = true → env[j]? = some s' → s'.isOwn = true → σ[i]? = some (some (.ref a)) → σ[j]? = some (some (.ref a)) → i = j
  wd : Wd mg N c H st
  n0 : ∀ a, E.N0 a → N a
  t0 : ∀ a, E.N0 a → E.H0 a ≠ none
  base : ∀ a o, E.H0 a = some o → a ∉ c → H a = some o
  pre : ∀ (k : Nat) a, E.c0[k]? = some a → c[k]? = some a
  newc : ∀ a, a ∈ c → a ∈ E.c0 ∨ E.H0 a = none
  slf : ∀ (i : Nat) cn ns ds a, env[i]? = some (.ownI cn ns ds) → σ[i]? = some (some (.ref a)) → E.self = some a
section
variable {mg : Glob} {E : En} {N N' : Prot} {c c' : List Addr} {H H' : Hp} {st st' : Sto} {env : Env} {σ : L2.St}
theorem join_some {α : Type} {o : Option (Option α)} {v : α} (h : o.join = some v) : o = some (some v) := by
  cases o with
  | none => cases h
  | some x => cases x with
    | none => cases h
    | some y => cases h; rfl
theorem SlR.ex (x : Ex N c H N' c' H') (W : Wd mg N c H st) {s : Sl} {o : Option V} (h : SlR mg N c H s o) (hn : s.isOwn = true → ∀ a, o = some (.ref a) → a ∉ c) : SlR mg N' c' H' s o := by
  cases s with
  | un => trivial
  | val d => obtain ⟨v, e, r⟩ := h; exact ⟨v, e, r.tr (x.tr W)⟩
  | own xs => obtain ⟨a, vs, e, ha, r⟩ := h; exact ⟨a, vs, e, x.keep _ _ ha (hn rfl a e), r.tr (x.tr W)⟩
  | ownI cn ns ds => obtain ⟨a, C, dx, fs, e, hc, ha, hm, r⟩ := h; exact ⟨a, C, dx, fs, e, hc, x.keep _ _ ha (hn rfl a e), hm, r.tr (x.tr W)⟩
  | ownD ks ds => obtain ⟨a, kvs, e, ha, hm, r⟩ := h; exact ⟨a, kvs, e, x.keep _ _ ha (hn rfl a e), hm, r.tr (x.tr W)⟩
theorem SlR.tracked {s : Sl} {o : Option V} (h : SlR mg N c H s o) (hs : s.isOwn = true) : ∃ a u, o = some (.ref a) ∧ H a = some u := by
  cases s with
  | un => cases hs
  | val d => cases hs
  | own xs => obtain ⟨a, vs, e, ha, r⟩ := h; exact ⟨a, _, e, ha⟩
  | ownI cn ns ds => obtain ⟨a, C, dx, fs, e, hc, ha, hm, r⟩ := h; exact ⟨a, _, e, ha⟩
  | ownD ks ds => obtain ⟨a, kvs, e, ha, hm, r⟩ := h; exact ⟨a, _, e, ha⟩
theorem Rel.ex (R : Rel mg E N c env st σ H) (x : Ex N c H N' c' H') (W' : Wd mg N' c' H' st') : Rel mg E N' c' env st' σ H' where
  len := R.len
  sl := fun i s h => (R.sl i s h).ex x R.wd fun hs a e => (R.own i s a h hs (join_some e)).2.1
  own := fun i s a h hs e => by
    obtain ⟨n, nc, z⟩ := R.own i s a h hs e
    obtain ⟨b, u, eb, hb⟩ := (R.sl i s h).tracked hs
    rw [e] at eb
    cases eb
    exact ⟨x.mono a n, x.nc R.wd hb nc, z⟩
  inj := R.inj
  wd := W'
  n0 := fun a h => x.mono a (R.n0 a h)
  t0 := R.t0
  base := fun a o h n => by
    have nc : a ∉ c := fun z => n (by
      obtain ⟨k, hk⟩ := List.getElem?_of_mem z
      exact List.mem_of_getElem? (x.pre k a hk))
    exact x.keep a o (R.base a o h nc) nc
  pre := fun k a h => x.pre k a (R.pre k a h)
  newc := fun a h => (x.newc a h).elim (R.newc a) fun e => by
    cases q : E.H0 a with
    | none => exact .inr rfl
    | some o =>
      by_cases nc : a ∈ c
      · exact absurd e (R.wd.trk a (R.wd.cn a nc))
      · rw [R.base a o q nc] at e; cases e
  slf := R.slf
end

/-! ### readings by plain functions -/
abbrev Fx (α : Type) := Env → Sto → Option (α × Sto)
abbrev SE := Fx D
/-- what is told of a value: by the state ahead and the state behind -/
abbrev Told (α : Type) := Prot → List Addr → Hp → Prot → List Addr → Hp → V → α → Prop
def tX {α : Type} (mg : Glob) (R : Told α) (f : Fx α) : TE := fun σ H Q => ∃ (E : En) (N : Prot) (c : List Addr) (env : Env) (st : Sto) (d : α) (st' : Sto), Rel mg E N c env st σ H ∧ f env st = some (d, st') ∧
  ∀ v N' c' H', Ex N c H N' c' H' → Wd mg N' c' H' st' → R N c H N' c' H' v d → Q v H'
/-- data -/
def RE (mg : Glob) : Told D := fun _ _ _ N' c' H' v d => Rep mg N' c' H' v d
/-- data, or a list of the frame's own, looked at -/
def RepT (mg : Glob) (N : Prot) (c : List Addr) (H : Hp) (v : V) (d : D) : Prop :=
  Rep mg N c H v d ∨ ∃ a vs xs, v = .ref a ∧ d = .lst xs ∧ H a = some (.lst vs) ∧ a ∉ c ∧ RepL mg N c H vs xs
def RP (mg : Glob) : Told D := fun _ _ _ N' c' H' v d => RepT mg N' c' H' v d
/-- a new list, protected -/
def RN (mg : Glob) : Told (List D) := fun _ _ H N' c' H' v xs => ∃ p vs, v = .ref p ∧ H p = none ∧ N' p ∧ p ∉ c' ∧ H' p = some (.lst vs) ∧ RepL mg N' c' H' vs xs
abbrev tE (mg : Glob) (f : SE) : TE := tX mg (RE mg) f
abbrev tP (mg : Glob) (f : SE) : TE := tX mg (RP mg) f
abbrev tL (mg : Glob) (f : Fx (List D)) : TE := tX mg (RN mg) f
/-- the list as data -/
def eL (f : Fx (List D)) : SE := fun env st => (f env st).map fun p => (.lst p.1, p.2)

section
variable {X : Cx} {e : Expr}
theorem pe_weak {t t' : TE} (h : PE X e t) (w : ∀ σ H Q, t' σ H Q → t σ H Q) : PE X e t' := ⟨fun pins s σ H Q I q => h.run pins s σ H Q I (w σ H Q q)⟩
theorem pt_weak {t t' : TT} (h : PT X e t) (w : ∀ σ H Q, t' σ H Q → t σ H Q) : PT X e t' := ⟨fun pins s σ H Q I q => h.run pins s σ H Q I (w σ H Q q)⟩
theorem pa_weak {es : List Expr} {t t' : TA} (h : PA X es t) (w : ∀ σ H Q, t' σ H Q → t σ H Q) : PA X es t' := ⟨fun pos pins s σ H Q I q => h.run pos pins s σ H Q I (w σ H Q q)⟩
theorem ps_weak {s : Stmt} {t t' : TS} (h : PS X s t) (w : ∀ D σ H, t' D σ H → t D σ H) : PS X s t' := ⟨fun pins s σ H D I q => h.run pins s σ H D I (w D σ H q)⟩
theorem pss_weak {s : List Stmt} {t t' : TS} (h : PSs X s t) (w : ∀ D σ H, t' D σ H → t D σ H) : PSs X s t' := ⟨fun pins s σ H D I q => h.run pins s σ H D I (w D σ H q)⟩
theorem pg_weak {tg : Expr} {t t' : TG} (h : PG X tg t) (w : ∀ v σ H Q, t' v σ H Q → t v σ H Q) : PG X tg t' := ⟨fun pins s σ H v u Q I r q => h.run pins s σ H v u Q I r (w v σ H Q q)⟩
theorem pi_weak {tg it : Expr} {t t' : TI} (h : PI X tg it t) (w : ∀ σ H R, t' σ H R → t σ H R) : PI X tg it t' := ⟨fun pins s σ H R I q => h.run pins s σ H R I (w σ H R q)⟩
end
section
variable {mg : Glob} {N N' : Prot} {c c' : List Addr} {H H' : Hp} {st st' : Sto} {v : V} {d : D} {X : Cx} {e : Expr}
theorem RepT.ex (x : Ex N c H N' c' H') (W : Wd mg N c H st) (h : RepT mg N c H v d) : RepT mg N' c' H' v d := by
  rcases h with h | ⟨a, vs, xs, rfl, rfl, ha, nc, r⟩
  · exact .inl (h.tr (x.tr W))
  · exact .inr ⟨a, vs, xs, rfl, rfl, x.keep _ _ ha nc, x.nc W ha nc, r.tr (x.tr W)⟩
/-- data may be looked at -/
theorem d_peek {f : SE} (h : PE X e (tE mg f)) : PE X e (tP mg f) := pe_weak h fun σ H Q ⟨E, N, c, env, st, d, st', R, q, k⟩ => ⟨E, N, c, env, st, d, st', R, q, fun v N' c' H' x W r => k v N' c' H' x W (.inl r)⟩
/-- a new list is data: protected no more -/
theorem RN.give {xs : List D} (W : Wd mg N c H st) (x : Ex N c H N' c' H') (W' : Wd mg N' c' H' st') (h : RN mg N c H N' c' H' v xs) : ∃ N'', Ex N c H N'' c' H' ∧ Wd mg N'' c' H' st' ∧ Rep mg N'' c' H' v (.lst xs) := by
  obtain ⟨p, vs, rfl, hp, np, nc, hv, r⟩ := h
  have less : ∀ a, (N' a ∧ a ≠ p) → N' a := fun a z => z.1
  refine ⟨fun a => N' a ∧ a ≠ p, ⟨x.keep, fun a z => x.new a z.1, fun a z => ⟨x.mono a z, fun e => W.trk a z (by rw [e]; exact hp)⟩, x.pre, x.newc⟩, W'.less less fun a z => ⟨W'.cn a z, fun e => nc (e ▸ z)⟩, ?_⟩
  exact .lst hv (fun z => z.2 rfl) (r.tr (Tr.less less))
theorem d_give {f : Fx (List D)} (h : PE X e (tL mg f)) : PE X e (tE mg (eL f)) := pe_weak h fun σ H Q ⟨E, N, c, env, st, d, st', R, q, k⟩ => by
  unfold eL at q
  cases qf : f env st with
  | none => rw [qf] at q; cases q
  | some p =>
    obtain ⟨xs, s1⟩ := p
    rw [qf] at q
    cases q
    refine ⟨E, N, c, env, st, xs, _, R, qf, fun v N' c' H' x W r => ?_⟩
    obtain ⟨N'', x2, W2, r2⟩ := r.give R.wd x W
    exact k v N'' c' H' x2 W2 r2
end
end LW

/-! LwB: expressions: names, constants, operators, comparisons, tests, displays, subscripts, slices. -/
namespace LW
open PySem L2 PyProof.Rows

/-- what is told can be carried back to an earlier state -/
def Back {α : Type} (mg : Glob) (R : Told α) : Prop := ∀ {N : Prot} {c : List Addr} {H : Hp} {st : Sto} {N1 : Prot} {c1 : List Addr} {H1 : Hp} {st1 : Sto} {N' : Prot} {c' : List Addr} {H' : Hp} {v : V} {d : α},
  Wd mg N c H st → Ex N c H N1 c1 H1 → Wd mg N1 c1 H1 st1 → R N1 c1 H1 N' c' H' v d → R N c H N' c' H' v d
section
variable {mg : Glob}
theorem back_E : Back mg (RE mg) := fun _ _ _ h => h
theorem back_P : Back mg (RP mg) := fun _ _ _ h => h
theorem back_N : Back mg (RN mg) := fun W x W1 ⟨p, vs, e, hp, r⟩ => ⟨p, vs, e, x.free W W1 hp, r⟩
end

/-! ### names and constants -/
def eVar (i : Nat) : SE := fun env st => match env[i]? with
  | some (.val d) => some (d, st)
  | _ => none
def ePeek (i : Nat) : SE := fun env st => match env[i]? with
  | some (.own xs) => some (.lst xs, st)
  | some (.val d) => some (d, st)
  | _ => none
def eC (d : D) : SE := fun _ st => some (d, st)
section
variable {mg : Glob} {X : Cx} {x : Str} {pos : Pos} {i : Nat}
theorem r_var {σ : L2.St} {H : Hp} {Q : VK} (h : tE mg (eVar i) σ H Q) : tVar i σ H Q := by
  obtain ⟨E, N, c, env, st, d, st', R, q, k⟩ := h
  unfold eVar at q
  split at q
  · rename_i d0 he
    cases q
    obtain ⟨v, e, r⟩ := R.sl i _ he
    exact ⟨v, join_some e, k v N c H Ex.refl R.wd r⟩
  · cases q
theorem d_var (i : Nat) {x : Str} {pos : Pos} (hN : X.N[i]? = some x := by rfl) (hv : Vis X.env.scope x := by first | exact Or.inl rfl | exact Or.inr (Or.inl rfl) | exact Or.inr (Or.inr rfl)) (hd : (x == ("__debug__" : Str)) = false := by decide)
    (hcd : (x == ("__classdict__" : Str)) = false := by decide) : PE X (.Name x pos) (tE mg (eVar i)) := pe_weak (pe_var hN hv hd hcd) fun _ _ _ h => r_var h
theorem r_peek {σ : L2.St} {H : Hp} {Q : VK} (h : tP mg (ePeek i) σ H Q) : tVar i σ H Q := by
  obtain ⟨E, N, c, env, st, d, st', R, q, k⟩ := h
  unfold ePeek at q
  split at q
  · rename_i xs he
    cases q
    obtain ⟨a, vs, e, ha, r⟩ := R.sl i _ he
    obtain ⟨n1, n2, n3⟩ := R.own i _ a he rfl (join_some e)
    exact ⟨.ref a, join_some e, k _ N c H Ex.refl R.wd (.inr ⟨a, vs, xs, rfl, rfl, ha, n2, r⟩)⟩
  · rename_i d0 he
    cases q
    obtain ⟨v, e, r⟩ := R.sl i _ he
    exact ⟨v, join_some e, k v N c H Ex.refl R.wd (.inl r)⟩
  · cases q
theorem d_look (i : Nat) {x : Str} {pos : Pos} (hN : X.N[i]? = some x := by rfl) (hv : Vis X.env.scope x := by first | exact Or.inl rfl | exact Or.inr (Or.inl rfl) | exact Or.inr (Or.inr rfl)) (hd : (x == ("__debug__" : Str)) = false := by decide)
    (hcd : (x == ("__classdict__" : Str)) = false := by decide) : PE X (.Name x pos) (tP mg (ePeek i)) := pe_weak (pe_var hN hv hd hcd) fun _ _ _ h => r_peek h
theorem r_c {v : V} {d : D} (hr : ∀ N c H, Rep mg N c H v d) {σ : L2.St} {H : Hp} {Q : VK} (h : tE mg (eC d) σ H Q) : tC v σ H Q := by
  obtain ⟨E, N, c, env, st, d', st', R, q, k⟩ := h
  cases q
  exact k v N c H Ex.refl R.wd (hr N c H)
theorem d_int {i : Int} {j pos} : PE X (.Constant (.int i) j pos) (tE mg (eC (.int i))) := pe_weak pe_int fun _ _ _ h => r_c (fun _ _ _ => .int i) h
theorem d_bl {b : Bool} {j pos} : PE X (.Constant (.bool b) j pos) (tE mg (eC (.bl b))) := pe_weak pe_bl fun _ _ _ h => r_c (fun _ _ _ => .bl b) h
theorem d_non {j pos} : PE X (.Constant .none j pos) (tE mg (eC .non)) := pe_weak pe_non fun _ _ _ h => r_c (fun _ _ _ => .non) h
theorem d_str {x : Str} {j pos} : PE X (.Constant (.str x) j pos) (tE mg (eC (.str x))) := pe_weak pe_str fun _ _ _ h => r_c (fun _ _ _ => .str x) h
/-- a constant of the module, a built-in class -/
theorem d_glob {x : Str} {v : V} {d : D} {u : Value} (hg : Gl X x) (hm : X.mg x = some u) (r : RelV v u) (hr : ∀ N c H, Rep mg N c H v d) (hd : (x == ("__debug__" : Str)) = false := by decide) : PE X (.Name x pos) (tE mg (eC d)) :=
  pe_weak (pe_glob hg hm r hd) fun _ _ _ h => r_c hr h
theorem d_ty {x : Str} {n : String} (hg : Gl X x) (hm : X.mg x = none) (hv : bootBuiltins x = some (.type n)) (hn : x ≠ "__name__" := by decide) (hd : (x == ("__debug__" : Str)) = false := by decide) : PE X (.Name x pos) (tE mg (eC (.ty n))) :=
  pe_weak (pe_bltn (v := .ty n) hg hm hv rfl hn hd) fun _ _ _ h => r_c (fun _ _ _ => .ty n) h
end

/-! ### what stands behind a value -/
/-- a list that may be joined to others; a list that may be read -/
def lstM (st : Sto) : D → Option (List D)
  | .lst xs => some xs
  | .cell k => st[k]?
  | _ => none
def lstR (st : Sto) : D → Option (List D)
  | .fro xs => some xs
  | d => lstM st d
section
variable {mg : Glob} {N : Prot} {c : List Addr} {H : Hp} {st : Sto} {u : V} {x : D}
theorem RepT.non (h : RepT mg N c H u .non) : u = .non := by
  rcases h with h | ⟨_, _, _, _, e, _⟩
  · cases h; rfl
  · cases e
theorem RepT.bl {b : Bool} (h : RepT mg N c H u (.bl b)) : u = .bl b := by
  rcases h with h | ⟨_, _, _, _, e, _⟩
  · cases h; rfl
  · cases e
theorem RepT.int {i : Int} (h : RepT mg N c H u (.int i)) : u = .int i := by
  rcases h with h | ⟨_, _, _, _, e, _⟩
  · cases h; rfl
  · cases e
theorem RepT.str {z : Str} (h : RepT mg N c H u (.str z)) : u = .str z := by
  rcases h with h | ⟨_, _, _, _, e, _⟩
  · cases h; rfl
  · cases e
theorem RepT.ty {n : String} (h : RepT mg N c H u (.ty n)) : u = .ty n := by
  rcases h with h | ⟨_, _, _, _, e, _⟩
  · cases h; rfl
  · cases e
theorem RepT.tup {xs : List D} (h : RepT mg N c H u (.tup xs)) : ∃ a vs, u = .ref a ∧ H a = some (.tup vs) ∧ RepL mg N c H vs xs := by
  rcases h with h | ⟨_, _, _, _, e, _⟩
  · cases h with
    | tup h n r => exact ⟨_, _, rfl, h, r⟩
  · cases e
theorem RepT.lst {xs : List D} (W : Wd mg N c H st) (h : RepT mg N c H u x) (e : lstM st x = some xs) : ∃ a vs, u = .ref a ∧ H a = some (.lst vs) ∧ RepL mg N c H vs xs := by
  rcases h with h | ⟨a, vs, ys, rfl, rfl, ha, _, r⟩
  · cases h with
    | lst h n r => cases e; exact ⟨_, _, rfl, h, r⟩
    | cell hc =>
      obtain ⟨vs, ha, r⟩ := W.sto _ _ _ hc e
      exact ⟨_, _, rfl, ha, r⟩
    | _ => cases e
  · cases e
    exact ⟨a, vs, rfl, ha, r⟩
theorem RepT.read {xs : List D} (W : Wd mg N c H st) (h : RepT mg N c H u x) (e : lstR st x = some xs) : ∃ a vs, u = .ref a ∧ SqL mg.K H a vs ∧ RepL mg N c H vs xs := by
  by_cases hf : ∃ ys, x = .fro ys
  · obtain ⟨ys, rfl⟩ := hf
    cases e
    rcases h with h | ⟨_, _, _, _, e, _⟩
    · cases h with
      | fro h n r => exact ⟨_, _, rfl, .inl (.inr ⟨_, h⟩), r⟩
      | kro h => exact ⟨_, _, rfl, h H, RepL.ints _⟩
    · cases e
  · have e2 : lstM st x = some xs := by
      cases x <;> first | exact e | exact absurd ⟨_, rfl⟩ hf
    obtain ⟨a, vs, e1, ha, r⟩ := RepT.lst W h e2
    exact ⟨a, vs, e1, SqL.of ha, r⟩
theorem Rep.isNon {d : D} {v : V} (h : Rep mg N c H v d) : (v = .non) ↔ (d = .non) := by
  constructor
  · intro e; subst e; cases h; rfl
  · intro e; subst e; cases h; rfl
theorem RepT.isNon {d : D} {v : V} (h : RepT mg N c H v d) : (v = .non) ↔ (d = .non) := by
  rcases h with h | ⟨_, _, _, e1, e2, _⟩
  · exact h.isNon
  · rw [e1, e2]; exact ⟨(fun z => nomatch z), (fun z => nomatch z)⟩
end

/-! ### two operands -/
def eOp {α : Type} (op : D → D → Sto → Option α) (a b : SE) : Fx α := fun env st => match a env st with
  | none => none
  | some (x, s1) => match b env s1 with
    | none => none
    | some (y, s2) => match op x y s2 with
      | none => none
      | some d => some (d, s2)
def OpOk {α : Type} (mg : Glob) (R : Told α) (r : R2) (op : D → D → Sto → Option α) : Prop := ∀ (N : Prot) (c : List Addr) (H : Hp) (st : Sto) (u v : V) (x y : D) (d : α) (Q : VK), Wd mg N c H st → RepT mg N c H u x → RepT mg N c H v y → op x y st = some d →
  (∀ w N' c' H', Ex N c H N' c' H' → Wd mg N' c' H' st → R N c H N' c' H' w d → Q w H') → r u v H Q
def orO {α : Type} (f g : D → D → Sto → Option α) : D → D → Sto → Option α := fun x y st => match f x y st with
  | some d => some d
  | none => g x y st
def asL (f : D → D → Sto → Option (List D)) : D → D → Sto → Option D := fun x y st => match f x y st with
  | some xs => some (.lst xs)
  | none => none
section
variable {α : Type} {mg : Glob} {R : Told α} {r r' : R2} {op op' : D → D → Sto → Option α} {fa fb : SE} {X : Cx} {a b : Expr} {pos : Pos}
theorem r_op (hk : OpOk mg R r op) (hb : Back mg R) {σ : L2.St} {H : Hp} {Q : VK} (h : tX mg R (eOp op fa fb) σ H Q) : tOp r (tP mg fa) (tP mg fb) σ H Q := by
  obtain ⟨E, N, c, env, st, d, st', R0, q, k⟩ := h
  unfold eOp at q
  split at q
  · cases q
  · rename_i x s1 q1
    split at q
    · cases q
    · rename_i y s2 q2
      split at q
      · cases q
      · rename_i d0 q3
        cases q
        refine ⟨E, N, c, env, st, x, s1, R0, q1, fun v1 N1 c1 H1 x1 W1 p1 => ?_⟩
        refine ⟨E, N1, c1, env, s1, y, _, R0.ex x1 W1, q2, fun v2 N2 c2 H2 x2 W2 p2 => ?_⟩
        have x12 := x1.trans x2 R0.wd
        refine hk N2 c2 H2 _ v1 v2 x y _ Q W2 (RepT.ex x2 W1 p1) p2 q3 fun w N' c' H' x3 W3 p3 => ?_
        exact k w N' c' H' (x12.trans x3 R0.wd) W3 (hb R0.wd x12 W2 p3)
theorem OpOk.or (h : OpOk mg R r op) (h' : OpOk mg R r' op') : OpOk mg R (fun x y H Q => r x y H Q ∨ r' x y H Q) (orO op op') := by
  intro N c H st u v x y d Q W p1 p2 e k
  unfold orO at e
  split at e
  · rename_i d0 e0
    cases e
    exact .inl (h N c H st u v x y _ Q W p1 p2 e0 k)
  · exact .inr (h' N c H st u v x y d Q W p1 p2 e k)
theorem d_bin {o : Operator} (ho : OpR X (binaryOp o) r) (hk : OpOk mg R r op) (hb : Back mg R) (ha : PE X a (tP mg fa)) (hb' : PE X b (tP mg fb)) : PE X (.BinOp a o b pos) (tX mg R (eOp op fa fb)) :=
  pe_weak (pe_op ho ha hb') fun _ _ _ h => r_op hk hb h
theorem d_cmp {o : CmpOp} (ho : OpR X (compareOp o) r) (hk : OpOk mg R r op) (hb : Back mg R) (ha : PE X a (tP mg fa)) (hb' : PE X b (tP mg fb)) (hm : behindInMarks o b = false) : PE X (.Compare a [o] [b] pos) (tX mg R (eOp op fa fb)) :=
  pe_weak (pe_cmpR ho ha hb' hm) fun _ _ _ h => r_op hk hb h
end

/-! ### whole numbers -/
def iOp (C : Int → Int → Bool) (g : Int → Int → D) : D → D → Sto → Option D := fun x y _ => match x, y with
  | .int i, .int j => if C i j = true then some (g i j) else none
  | _, _ => none
theorem ok_I {mg : Glob} {C : Int → Int → Bool} {P : Int → Int → Prop} {g : Int → Int → D} {gv : Int → Int → V} (hC : ∀ i j, C i j = true → P i j) (hg : ∀ i j N c H, Rep mg N c H (gv i j) (g i j)) : OpOk mg (RE mg) (rI P gv) (iOp C g) := by
  intro N c H st u v x y d Q W p1 p2 e k
  unfold iOp at e
  split at e
  · rename_i i j
    split at e
    · rename_i hc
      cases e
      exact ⟨i, j, p1.int, p2.int, hC i j hc, k _ N c H Ex.refl W (hg i j N c H)⟩
    · cases e
  · cases e
theorem ok_I0 {mg : Glob} {g : Int → Int → D} {gv : Int → Int → V} (hg : ∀ i j N c H, Rep mg N c H (gv i j) (g i j)) : OpOk mg (RE mg) (rI0 gv) (iOp (fun _ _ => true) g) := by
  intro N c H st u v x y d Q W p1 p2 e k
  unfold iOp at e
  split at e
  · rename_i i j
    split at e
    · cases e
      exact ⟨i, j, p1.int, p2.int, k _ N c H Ex.refl W (hg i j N c H)⟩
    · cases e
  · cases e
def mulC (i j : Int) : Bool := (decide (-(2 ^ 64) < i) && decide (i < 2 ^ 64)) || (decide (-(2 ^ 64) < j) && decide (j < 2 ^ 64)) || decide ((Builtin.Int.intBits i : Int) + (Builtin.Int.intBits j : Int) ≤ 134217728)
def divC (_ j : Int) : Bool := decide (0 < j) && decide (j.natAbs.log2 < 9000)
def modC (_ j : Int) : Bool := decide (0 < j)
def powC (i j : Int) : Bool := decide (0 ≤ j) && decide ((Builtin.Int.intBits i : Int) * j ≤ 134217728)
theorem mulC_ok {i j : Int} (h : mulC i j = true) : IntMulOk i j := by
  unfold mulC at h
  rw [Bool.or_eq_true, Bool.or_eq_true, Bool.and_eq_true, Bool.and_eq_true] at h
  rcases h with (h | h) | h
  · exact CMul.ok (.inl ⟨of_decide_eq_true h.1, of_decide_eq_true h.2⟩)
  · exact CMul.ok (.inr ⟨of_decide_eq_true h.1, of_decide_eq_true h.2⟩)
  · exact CMulX.ok (show (Builtin.Int.intBits i : Int) + (Builtin.Int.intBits j : Int) ≤ 134217728 from of_decide_eq_true h)
theorem divC_ok {i j : Int} (h : divC i j = true) : CDivW i j := by
  unfold divC at h
  rw [Bool.and_eq_true] at h
  exact ⟨of_decide_eq_true h.1, of_decide_eq_true h.2⟩
section
variable {X : Cx} {mg : Glob}
theorem op_mulA : OpR X (binaryOp .Mult) (rI (fun i j => mulC i j = true) fun i j => .int (i * j)) := opI fun _ _ _ _ _ _ _ hc q => mul_int q (mulC_ok hc)
theorem op_powA : OpR X (binaryOp .Pow) (rI (fun i j => powC i j = true) fun i j => .int (i ^ j.toNat)) := opI fun i j _ _ _ _ _ hc q => by
  have hc : powC i j = true := hc
  unfold powC at hc
  rw [Bool.and_eq_true] at hc
  exact pow_int (of_decide_eq_true hc.1) (of_decide_eq_true hc.2) q
end
abbrev oSub := iOp (fun _ _ => true) fun i j => .int (i - j)
abbrev oMul := iOp mulC fun i j => .int (i * j)
abbrev oDiv := iOp divC fun i j => .int (i / j)
abbrev oMod := iOp modC fun i j => .int (i % j)
abbrev oPow := iOp powC fun i j => .int (i ^ j.toNat)
abbrev oLt := iOp (fun _ _ => true) fun i j => .bl (decide (i < j))
abbrev oLe := iOp (fun _ _ => true) fun i j => .bl (decide (i ≤ j))
abbrev oGt := iOp (fun _ _ => true) fun i j => .bl (decide (j < i))
abbrev oGe := iOp (fun _ _ => true) fun i j => .bl (decide (j ≤ i))
section
variable {X : Cx} {mg : Glob} {a b : Expr} {pos : Pos} {fa fb : SE}
theorem d_sub (ha : PE X a (tP mg fa)) (hb : PE X b (tP mg fb)) : PE X (.BinOp a .Sub b pos) (tE mg (eOp oSub fa fb)) := d_bin op_sub (ok_I0 fun i j _ _ _ => .int (i - j)) back_E ha hb
theorem d_mul (ha : PE X a (tP mg fa)) (hb : PE X b (tP mg fb)) : PE X (.BinOp a .Mult b pos) (tE mg (eOp oMul fa fb)) := d_bin op_mulA (ok_I (fun _ _ h => h) fun i j _ _ _ => .int (i * j)) back_E ha hb
theorem d_div (ha : PE X a (tP mg fa)) (hb : PE X b (tP mg fb)) : PE X (.BinOp a .FloorDiv b pos) (tE mg (eOp oDiv fa fb)) := d_bin op_fdivW (ok_I (fun _ _ h => divC_ok h) fun i j _ _ _ => .int (i / j)) back_E ha hb
theorem d_mod (ha : PE X a (tP mg fa)) (hb : PE X b (tP mg fb)) : PE X (.BinOp a .Mod b pos) (tE mg (eOp oMod fa fb)) := d_bin op_mod (ok_I (fun _ _ h => of_decide_eq_true h) fun i j _ _ _ => .int (i % j)) back_E ha hb
theorem d_pow (ha : PE X a (tP mg fa)) (hb : PE X b (tP mg fb)) : PE X (.BinOp a .Pow b pos) (tE mg (eOp oPow fa fb)) := d_bin op_powA (ok_I (fun _ _ h => h) fun i j _ _ _ => .int _) back_E ha hb
theorem d_lt (ha : PE X a (tP mg fa)) (hb : PE X b (tP mg fb)) : PE X (.Compare a [.Lt] [b] pos) (tE mg (eOp oLt fa fb)) := d_cmp op_lt (ok_I0 fun i j _ _ _ => .bl _) back_E ha hb (nomark _)
theorem d_le (ha : PE X a (tP mg fa)) (hb : PE X b (tP mg fb)) : PE X (.Compare a [.LtE] [b] pos) (tE mg (eOp oLe fa fb)) := d_cmp op_le (ok_I0 fun i j _ _ _ => .bl _) back_E ha hb (nomark _)
theorem d_gt (ha : PE X a (tP mg fa)) (hb : PE X b (tP mg fb)) : PE X (.Compare a [.Gt] [b] pos) (tE mg (eOp oGt fa fb)) := d_cmp op_gt (ok_I0 fun i j _ _ _ => .bl _) back_E ha hb (nomark _)
theorem d_ge (ha : PE X a (tP mg fa)) (hb : PE X b (tP mg fb)) : PE X (.Compare a [.GtE] [b] pos) (tE mg (eOp oGe fa fb)) := d_cmp op_ge (ok_I0 fun i j _ _ _ => .bl _) back_E ha hb (nomark _)
end

/-! ### adding -/
def oCat : D → D → Sto → Option (List D) := fun x y st => match lstM st x, lstM st y with
  | some xs, some ys => if xs.length + ys.length ≤ 1000000 then some (xs ++ ys) else none
  | _, _ => none
def oCatS : D → D → Sto → Option D := fun x y _ => match x, y with
  | .str s, .str t => if s.length + t.length ≤ 1000000 then some (.str (s ++ t)) else none
  | _, _ => none
def oCatT : D → D → Sto → Option D := fun x y _ => match x, y with
  | .tup xs, .tup ys => if xs.length + ys.length ≤ 1000000 then some (.tup (xs ++ ys)) else none
  | _, _ => none
theorem sz6 {n : Nat} (h : n ≤ 1000000) : n ≤ sizeLine := Nat.le_trans h (by decide)
section
variable {mg : Glob}
theorem RN.laid {N : Prot} {c : List Addr} {H : Hp} {st : Sto} {vs : List V} {xs : List D} {p : Addr} (W : Wd mg N c H st) (hp : H p = none) (r : RepL mg N c H vs xs) : RN mg N c H (fun a => N a ∨ a = p) c (upd H p (.lst vs)) (.ref p) xs :=
  ⟨p, vs, rfl, hp, .inr rfl, W.cnone hp, upd_same, r.tr ((Ex.laidN W hp).tr W)⟩
theorem Rep.laidT {N : Prot} {c : List Addr} {H : Hp} {st : Sto} {vs : List V} {xs : List D} {p : Addr} (W : Wd mg N c H st) (hp : H p = none) (r : RepL mg N c H vs xs) : Rep mg N c (upd H p (.tup vs)) (.ref p) (.tup xs) :=
  .tup upd_same (W.nsome hp) (r.tr ((Ex.laid W hp).tr W))
theorem ok_cat : OpOk mg (RN mg) rCat oCat := by
  intro N c H st u v x y d Q W p1 p2 e k
  unfold oCat at e
  split at e
  · rename_i xs ys e1 e2
    split at e
    · rename_i hl
      cases e
      obtain ⟨a, vs, rfl, ha, r1⟩ := RepT.lst W p1 e1
      obtain ⟨b, us, rfl, hb, r2⟩ := RepT.lst W p2 e2
      refine ⟨a, b, vs, us, rfl, rfl, ha, hb, sz6 (by rw [r1.length, r2.length]; exact hl), fun p hp => ?_⟩
      exact k _ _ _ _ (Ex.laidN W hp) (W.laidN hp) (RN.laid W hp (r1.append r2))
    · cases e
  · cases e
theorem OpOk.give {r : R2} {op : D → D → Sto → Option (List D)} (h : OpOk mg (RN mg) r op) : OpOk mg (RE mg) r (asL op) := by
  intro N c H st u v x y d Q W p1 p2 e k
  unfold asL at e
  split at e
  · rename_i xs e0
    cases e
    refine h N c H st u v x y xs Q W p1 p2 e0 fun w N' c' H' x W' r => ?_
    obtain ⟨N'', x2, W2, r2⟩ := r.give W x W'
    exact k w N'' c' H' x2 W2 r2
  · cases e
theorem ok_catS : OpOk mg (RE mg) (fun x y H Q => ∃ i j, x = .str i ∧ y = .str j ∧ i.length + j.length ≤ sizeLine ∧ Q (.str (i ++ j)) H) oCatS := by
  intro N c H st u v x y d Q W p1 p2 e k
  unfold oCatS at e
  split at e
  · rename_i i j
    split at e
    · rename_i hl
      cases e
      exact ⟨i, j, p1.str, p2.str, sz6 hl, k _ N c H Ex.refl W (.str _)⟩
    · cases e
  · cases e
theorem ok_catT {K : PySem.W.Frag} : OpOk mg (RP mg) (rCatA K) oCatT := by
  intro N c H st u v x y d Q W p1 p2 e k
  unfold oCatT at e
  split at e
  · rename_i xs ys
    split at e
    · rename_i hl
      cases e
      obtain ⟨a, vs, rfl, ha, r1⟩ := p1.tup
      obtain ⟨b, us, rfl, hb, r2⟩ := p2.tup
      have l1 := r1.length
      have l2 := r2.length
      refine ⟨a, b, vs, us, rfl, rfl, SqT.of ha, SqT.of hb, sz6 (by omega), fun e0 => ?_, fun n1 e0 => ?_, fun n1 n2 p hp => ?_⟩
      · subst e0
        cases r1
        exact k _ N c H Ex.refl W p2
      · subst e0
        cases r2
        rw [List.append_nil] at k
        exact k _ N c H Ex.refl W p1
      · exact k _ _ _ _ (Ex.laid W hp) (W.laid hp) (.inl (Rep.laidT W hp (r1.append r2)))
    · cases e
  · cases e
theorem ok_catT' {K : PySem.W.Frag} : OpOk mg (RE mg) (rCatA K) oCatT := by
  intro N c H st u v x y d Q W p1 p2 e k
  refine ok_catT N c H st u v x y d Q W p1 p2 e fun w N' c' H' x W' r => k w N' c' H' x W' ?_
  have : ∃ zs, d = .tup zs := by
    unfold oCatT at e
    split at e
    · split at e
      · cases e; exact ⟨_, rfl⟩
      · cases e
    · cases e
  obtain ⟨zs, rfl⟩ := this
  rcases r with r | ⟨_, _, _, _, e, _⟩
  · exact r
  · cases e
end
/-- x + y as data: ints, texts, lists, tuples -/
abbrev oAdd : D → D → Sto → Option D := orO (iOp (fun _ _ => true) fun i j => .int (i + j)) (orO oCatS (orO (asL oCat) oCatT))
section
variable {X : Cx} {mg : Glob} {a b : Expr} {pos : Pos} {fa fb : SE}
theorem d_add (ha : PE X a (tP mg fa)) (hb : PE X b (tP mg fb)) : PE X (.BinOp a .Add b pos) (tE mg (eOp oAdd fa fb)) :=
  d_bin (OpR.or op_add (OpR.or op_add_str (OpR.or op_cat op_catA))) (OpOk.or (ok_I0 fun i j _ _ _ => .int (i + j)) (OpOk.or ok_catS (OpOk.or ok_cat.give ok_catT'))) back_E ha hb
theorem d_addL (ha : PE X a (tP mg fa)) (hb : PE X b (tP mg fb)) : PE X (.BinOp a .Add b pos) (tL mg (eOp oCat fa fb)) := d_bin op_cat ok_cat back_N ha hb
end
end LW

/-! LwC: equality, is None, in; tests, and, or, not, if; argument lists, displays; subscripts, slices. -/
namespace LW
open PySem L2 PyProof.Rows

/-! ### equality of data -/
def mapO {α β : Type} (f : α → Option β) : List α → Option (List β)
  | [] => some []
  | x :: r => match f x with
    | none => none
    | some y => match mapO f r with
      | none => none
      | some ys => some (y :: ys)
/-- data as the library's data: no instances, no dicts; n: how deep -/
def toPy : Nat → Sto → D → Option PyData
  | 0, _, _ => none
  | n + 1, st, d => match d with
    | .non => some .none
    | .bl b => some (.bool b)
    | .int i => some (.int i)
    | .str x => if PyData.strOk x = true then some (.str x) else none
    | .tup xs => match mapO (toPy n st) xs with
      | some ps => some (.tuple ps)
      | none => none
    | .lst xs => match mapO (toPy n st) xs with
      | some ps => some (.list ps)
      | none => none
    | .fro xs => match mapO (toPy n st) xs with
      | some ps => some (.list ps)
      | none => none
    | .cell k => match st[k]? with
      | none => none
      | some xs => match mapO (toPy n st) xs with
        | some ps => some (.list ps)
        | none => none
    | _ => none
theorem depthAll_le {n : Nat} {f : D → Option PyData} (h : ∀ x p, f x = some p → p.depth ≤ n ∧ p.canLay0 = true) : ∀ (xs : List D) (ps : List PyData), mapO f xs = some ps → PyData.depthAll ps ≤ n ∧ PyData.canLayAll0 ps = true
  | [], ps, e => by
    cases e
    exact ⟨Nat.zero_le _, rfl⟩
  | x :: r, ps, e => by
    unfold mapO at e
    split at e
    · cases e
    · rename_i y hy
      split at e
      · cases e
      · rename_i ys hys
        cases e
        obtain ⟨h1, h2⟩ := h x y hy
        obtain ⟨h3, h4⟩ := depthAll_le h r ys hys
        refine ⟨?_, ?_⟩
        · show max y.depth (PyData.depthAll ys) ≤ n
          omega
        · show (y.canLay0 && PyData.canLayAll0 ys) = true
          rw [h2, h4]; rfl
theorem toPy_ok : ∀ (n : Nat) (st : Sto) (d : D) (p : PyData), toPy n st d = some p → p.depth ≤ n ∧ p.canLay0 = true := by
  intro n
  induction n with
  | zero => intro st d p e; cases e
  | succ n ih =>
    intro st d p e
    have hL := @depthAll_le n (toPy n st) (fun x p h => ih st x p h)
    unfold toPy at e
    split at e
    · cases e; exact ⟨Nat.zero_le _, rfl⟩
    · cases e; exact ⟨Nat.zero_le _, rfl⟩
    · cases e; exact ⟨Nat.zero_le _, rfl⟩
    · split at e
      · rename_i hs
        cases e; exact ⟨Nat.zero_le _, hs⟩
      · cases e
    · split at e
      · rename_i xs ps hp
        cases e
        obtain ⟨h1, h2⟩ := hL _ ps hp
        exact ⟨Nat.succ_le_succ h1, h2⟩
      · cases e
    · split at e
      · rename_i xs ps hp
        cases e
        obtain ⟨h1, h2⟩ := hL _ ps hp
        exact ⟨Nat.succ_le_succ h1, h2⟩
      · cases e
    · split at e
      · rename_i xs ps hp
        cases e
        obtain ⟨h1, h2⟩ := hL _ ps hp
        exact ⟨Nat.succ_le_succ h1, h2⟩
      · cases e
    · split at e
      · cases e
      · split at e
        · rename_i xs hx ps hp
          cases e
          obtain ⟨h1, h2⟩ := hL _ ps hp
          exact ⟨Nat.succ_le_succ h1, h2⟩
        · cases e
    · cases e
theorem toPy_shaped {st : Sto} {d : D} {p : PyData} (h : toPy 60 st d = some p) : SeqAt.shaped p = true := by
  obtain ⟨h1, h2⟩ := toPy_ok 60 st d p h
  unfold SeqAt.shaped
  rw [h2, decide_eq_true (show p.depth ≤ 64 by omega)]
  rfl
section
variable {mg : Glob} {N : Prot} {c : List Addr} {H : Hp} {st : Sto}
theorem dp_all {n : Nat} (h : ∀ (d : D) (v : V) (p : PyData), Rep mg N c H v d → toPy n st d = some p → Dp mg.K H v p) : ∀ (xs : List D) (vs : List V) (ps : List PyData), RepL mg N c H vs xs → mapO (toPy n st) xs = some ps → DpAll mg.K H vs ps
  | [], _, ps, .nil, e => by cases e; exact .nil
  | x :: r, _, ps, .cons hv t, e => by
    unfold mapO at e
    split at e
    · cases e
    · rename_i y hy
      split at e
      · cases e
      · rename_i ys hys
        cases e
        exact .cons (h _ _ _ hv hy) (dp_all h r _ ys t hys)
theorem dp_of (W : Wd mg N c H st) : ∀ (n : Nat) (d : D) (v : V) (p : PyData), Rep mg N c H v d → toPy n st d = some p → Dp mg.K H v p := by
  intro n
  induction n with
  | zero => intro d v p _ e; cases e
  | succ n ih =>
    intro d v p h e
    unfold toPy at e
    split at e
    · cases e; cases h; exact .non
    · cases e; cases h; exact .bl _
    · cases e; cases h; exact .int _
    · split at e
      · cases e; cases h; exact .str _
      · cases e
    · split at e
      · rename_i ps hp
        cases e
        cases h with
        | tup ha _ r => exact .tup (SqT.of ha) (dp_all ih _ _ _ r hp)
      · cases e
    · split at e
      · rename_i ps hp
        cases e
        cases h with
        | lst ha _ r => exact .lst (SqL.of ha) (dp_all ih _ _ _ r hp)
      · cases e
    · split at e
      · rename_i ps hp
        cases e
        cases h with
        | fro ha _ r => exact .lst (.inl (.inr ⟨_, ha⟩)) (dp_all ih _ _ _ r hp)
        | kro hq => exact .lst (hq H) (dp_all ih _ _ _ (RepL.ints _) hp)
      · cases e
    · split at e
      · cases e
      · rename_i xs hx
        split at e
        · rename_i ps hp
          cases e
          cases h with
          | cell hc =>
            obtain ⟨vs, ha, r⟩ := W.sto _ _ _ hc hx
            exact .lst (SqL.of ha) (dp_all ih _ _ _ r hp)
        · cases e
    · cases e
theorem dp_T (W : Wd mg N c H st) {d : D} {v : V} {p : PyData} (h : RepT mg N c H v d) (e : toPy 60 st d = some p) : Dp mg.K H v p := by
  rcases h with h | ⟨a, vs, xs, rfl, rfl, ha, _, r⟩
  · exact dp_of W 60 d v p h e
  · unfold toPy at e
    dsimp only at e
    split at e
    · rename_i ps hp
      cases e
      exact .lst (SqL.of ha) (dp_all (dp_of W 59) _ _ _ r hp)
    · cases e
end
def oEq : D → D → Sto → Option D := fun x y st => match toPy 60 st x, toPy 60 st y with
  | some p, some q => some (.bl (PyData.eqv p q))
  | _, _ => none
def oNe : D → D → Sto → Option D := fun x y st => match toPy 60 st x, toPy 60 st y with
  | some p, some q => some (.bl (!PyData.eqv p q))
  | _, _ => none
theorem ok_eq {mg : Glob} : OpOk mg (RE mg) (rEqD mg.K) oEq := by
  intro N c H st u v x y d Q W p1 p2 e k
  unfold oEq at e
  split at e
  · rename_i p q e1 e2
    cases e
    exact ⟨p, q, dp_T W p1 e1, dp_T W p2 e2, toPy_shaped e1, toPy_shaped e2, k _ N c H Ex.refl W (.bl _)⟩
  · cases e
theorem ok_ne {mg : Glob} : OpOk mg (RE mg) (rNeD mg.K) oNe := by
  intro N c H st u v x y d Q W p1 p2 e k
  unfold oNe at e
  split at e
  · rename_i p q e1 e2
    cases e
    exact ⟨p, q, dp_T W p1 e1, dp_T W p2 e2, toPy_shaped e1, toPy_shaped e2, k _ N c H Ex.refl W (.bl _)⟩
  · cases e
/-- is None, is not None -/
def isNonD : D → Bool
  | .non => true
  | _ => false
theorem isNonD_iff {d : D} : isNonD d = true ↔ d = .non := by
  cases d <;> simp [isNonD]
def oIsN : D → D → Sto → Option D := fun x y _ => match y with
  | .non => some (.bl (isNonD x))
  | _ => none
def oNotN : D → D → Sto → Option D := fun x y _ => match y with
  | .non => some (.bl (!isNonD x))
  | _ => none
theorem isN_eq {mg : Glob} {N : Prot} {c : List Addr} {H : Hp} {u : V} {x : D} (h : RepT mg N c H u x) : decide (u = .non) = isNonD x := by
  cases e : isNonD x with
  | true => exact decide_eq_true (h.isNon.mpr (isNonD_iff.mp e))
  | false =>
    refine decide_eq_false fun z => ?_
    have q := isNonD_iff.mpr (h.isNon.mp z)
    rw [e] at q; cases q
theorem ok_isN {mg : Glob} : OpOk mg (RE mg) (fun x y H Q => y = .non ∧ Q (.bl (decide (x = .non))) H) oIsN := by
  intro N c H st u v x y d Q W p1 p2 e k
  unfold oIsN at e
  split at e
  · cases e
    refine ⟨p2.non, ?_⟩
    rw [isN_eq p1]
    exact k _ N c H Ex.refl W (.bl _)
  · cases e
theorem ok_notN {mg : Glob} : OpOk mg (RE mg) (fun x y H Q => y = .non ∧ Q (.bl (!decide (x = .non))) H) oNotN := by
  intro N c H st u v x y d Q W p1 p2 e k
  unfold oNotN at e
  split at e
  · cases e
    refine ⟨p2.non, ?_⟩
    rw [isN_eq p1]
    exact k _ N c H Ex.refl W (.bl _)
  · cases e
/-- is True, is not False .. of truth values -/
def oIsB (neg : Bool) : D → D → Sto → Option D := fun x y _ => match x, y with
  | .bl a, .bl b => some (.bl (if neg then !decide (a = b) else decide (a = b)))
  | _, _ => none
theorem ok_isB {mg : Glob} : OpOk mg (RE mg) (fun x y H Q => ∃ a b, x = .bl a ∧ y = .bl b ∧ Q (.bl (decide (a = b))) H) (oIsB false) := by
  intro N c H st u v x y d Q W p1 p2 e k
  unfold oIsB at e
  split at e
  · cases e
    exact ⟨_, _, p1.bl, p2.bl, k _ N c H Ex.refl W (.bl _)⟩
  · cases e
theorem ok_isntB {mg : Glob} : OpOk mg (RE mg) (fun x y H Q => ∃ a b, x = .bl a ∧ y = .bl b ∧ Q (.bl (!decide (a = b))) H) (oIsB true) := by
  intro N c H st u v x y d Q W p1 p2 e k
  unfold oIsB at e
  split at e
  · cases e
    exact ⟨_, _, p1.bl, p2.bl, k _ N c H Ex.refl W (.bl _)⟩
  · cases e
section
variable {X : Cx} {mg : Glob} {a b : Expr} {pos : Pos} {fa fb : SE}
theorem d_eq (hu : X.A.units + 64 < cLine) (ha : PE X a (tP mg fa)) (hb : PE X b (tP mg fb)) (hK : X.K = mg.K := by rfl) : PE X (.Compare a [.Eq] [b] pos) (tE mg (eOp oEq fa fb)) := d_cmp (hK ▸ op_eqD hu) ok_eq back_E ha hb (nomark _)
theorem d_ne (hu : X.A.units + 64 < cLine) (ha : PE X a (tP mg fa)) (hb : PE X b (tP mg fb)) (hK : X.K = mg.K := by rfl) : PE X (.Compare a [.NotEq] [b] pos) (tE mg (eOp oNe fa fb)) := d_cmp (hK ▸ op_neD hu) ok_ne back_E ha hb (nomark _)
theorem d_isN (ha : PE X a (tP mg fa)) (hb : PE X b (tP mg fb)) : PE X (.Compare a [.Is] [b] pos) (tE mg (eOp oIsN fa fb)) := d_cmp op_isN ok_isN back_E ha hb (nomark _)
theorem d_notN (ha : PE X a (tP mg fa)) (hb : PE X b (tP mg fb)) : PE X (.Compare a [.IsNot] [b] pos) (tE mg (eOp oNotN fa fb)) := d_cmp op_notN ok_notN back_E ha hb (nomark _)
theorem d_isB (ha : PE X a (tP mg fa)) (hb : PE X b (tP mg fb)) : PE X (.Compare a [.Is] [b] pos) (tE mg (eOp (oIsB false) fa fb)) := d_cmp op_is_bl ok_isB back_E ha hb (nomark _)
theorem d_isntB (ha : PE X a (tP mg fa)) (hb : PE X b (tP mg fb)) : PE X (.Compare a [.IsNot] [b] pos) (tE mg (eOp (oIsB true) fa fb)) := d_cmp op_isnot_bl ok_isntB back_E ha hb (nomark _)
end

/-! ### tests -/
abbrev SB := Fx Bool
def tT (mg : Glob) (f : SB) : TT := fun σ H Q => ∃ (E : En) (N : Prot) (c : List Addr) (env : Env) (st : Sto) (b : Bool) (st' : Sto), Rel mg E N c env st σ H ∧ f env st = some (b, st') ∧
  ∀ N' c' H', Ex N c H N' c' H' → Wd mg N' c' H' st' → Q b H'
def bOf (f : SE) : SB := fun env st => match f env st with
  | some (.bl b, s1) => some (b, s1)
  | _ => none
def bAnd (f g : SB) : SB := fun env st => match f env st with
  | none => none
  | some (true, s1) => g env s1
  | some (false, s1) => some (false, s1)
def bOr (f g : SB) : SB := fun env st => match f env st with
  | none => none
  | some (true, s1) => some (true, s1)
  | some (false, s1) => g env s1
def bNot (f : SB) : SB := fun env st => match f env st with
  | none => none
  | some (b, s1) => some (!b, s1)
section
variable {X : Cx} {mg : Glob} {e a b : Expr} {rest : List Expr} {pos : Pos} {fe fa fb : SE} {ta tb tc : SB}
theorem r_bOf {σ : L2.St} {H : Hp} {Q : Bool → Hp → Prop} (h : tT mg (bOf fe) σ H Q) : tB (tP mg fe) σ H Q := by
  obtain ⟨E, N, c, env, st, d, st', R, q, k⟩ := h
  unfold bOf at q
  split at q
  · rename_i b s1 q1
    cases q
    exact ⟨E, N, c, env, st, _, _, R, q1, fun v N' c' H' x W r => ⟨_, r.bl, k N' c' H' x W⟩⟩
  · cases q
theorem d_test (h : PE X e (tP mg fe)) (he : ∀ whole, isTrue e X.env whole = (do let v ← whole; standAt e.pos; holding [v] (truthy v)) := by intro _; rfl) : PT X e (tT mg (bOf fe)) := pt_weak (pt_val h he) fun _ _ _ q => r_bOf q
theorem pw_weak {t t' : TT} (h : PW X e t) (w : ∀ σ H Q, t' σ H Q → t σ H Q) : PW X e t' := ⟨fun wh pins s σ H Q I q => h.run wh pins s σ H Q I (w σ H Q q)⟩
theorem r_and {σ : L2.St} {H : Hp} {Q : Bool → Hp → Prop} (h : tT mg (bAnd ta tb) σ H Q) : tAnd (tT mg ta) (tT mg tb) σ H Q := by
  obtain ⟨E, N, c, env, st, d, st', R, q, k⟩ := h
  unfold bAnd at q
  split at q
  · cases q
  · rename_i s1 q1
    refine ⟨E, N, c, env, st, true, s1, R, q1, fun N1 c1 H1 x1 W1 => iteT ?_⟩
    exact ⟨E, N1, c1, env, s1, d, st', R.ex x1 W1, q, fun N2 c2 H2 x2 W2 => k N2 c2 H2 (x1.trans x2 R.wd) W2⟩
  · rename_i s1 q1
    cases q
    exact ⟨E, N, c, env, st, false, _, R, q1, fun N1 c1 H1 x1 W1 => iteF (k N1 c1 H1 x1 W1)⟩
theorem r_or {σ : L2.St} {H : Hp} {Q : Bool → Hp → Prop} (h : tT mg (bOr ta tb) σ H Q) : tOr (tT mg ta) (tT mg tb) σ H Q := by
  obtain ⟨E, N, c, env, st, d, st', R, q, k⟩ := h
  unfold bOr at q
  split at q
  · cases q
  · rename_i s1 q1
    cases q
    exact ⟨E, N, c, env, st, true, _, R, q1, fun N1 c1 H1 x1 W1 => iteT (k N1 c1 H1 x1 W1)⟩
  · rename_i s1 q1
    refine ⟨E, N, c, env, st, false, s1, R, q1, fun N1 c1 H1 x1 W1 => iteF ?_⟩
    exact ⟨E, N1, c1, env, s1, d, st', R.ex x1 W1, q, fun N2 c2 H2 x2 W2 => k N2 c2 H2 (x1.trans x2 R.wd) W2⟩
theorem r_not {σ : L2.St} {H : Hp} {Q : Bool → Hp → Prop} (h : tT mg (bNot ta) σ H Q) : tNot (tT mg ta) σ H Q := by
  obtain ⟨E, N, c, env, st, d, st', R, q, k⟩ := h
  unfold bNot at q
  split at q
  · cases q
  · rename_i b s1 q1
    cases q
    exact ⟨E, N, c, env, st, b, _, R, q1, k⟩
theorem w_and1 (ha : PT X a (tT mg ta)) : PW X (.BoolOp .And [a] pos) (tT mg ta) := pw_and1 ha
theorem w_or1 (ha : PT X a (tT mg ta)) : PW X (.BoolOp .Or [a] pos) (tT mg ta) := pw_or1 ha
theorem w_and (ha : PT X a (tT mg ta)) (hb : PW X (.BoolOp .And (b :: rest) pos) (tT mg tb)) : PW X (.BoolOp .And (a :: b :: rest) pos) (tT mg (bAnd ta tb)) := pw_weak (pw_and ha hb) fun _ _ _ q => r_and q
theorem w_or (ha : PT X a (tT mg ta)) (hb : PW X (.BoolOp .Or (b :: rest) pos) (tT mg tb)) : PW X (.BoolOp .Or (a :: b :: rest) pos) (tT mg (bOr ta tb)) := pw_weak (pw_or ha hb) fun _ _ _ q => r_or q
theorem w_pt (h : PW X e (tT mg ta)) : PT X e (tT mg ta) := h.pt
theorem d_not (ha : PT X a (tT mg ta)) : PT X (.UnaryOp .Not a pos) (tT mg (bNot ta)) := pt_weak (pt_not ha) fun _ _ _ q => r_not q
/-- a comparison as a test -/
theorem test_cmp {M : Model} {A : Around} {l r : Expr} {op : CmpOp} {pos : Pos} {env : PySem.Env} {whole : Sem Value} {Q : Bool → Shared → Prop} {E : Value → Shared → Prop} {s : Shared}
    (h : wpAny M A (eval (.Compare l [op] [r] pos) env) (fun c s₃ => wpAny M A (truthy c) Q E s₃) E s) : wpAny M A (isTrue (.Compare l [op] [r] pos) env whole) Q E s := fun Γ p hΓ => by
  have h := h Γ p hΓ
  simp only [eval_Compare1, isTrue_Compare1, Sem.wp_bind', Sem.wp_holding, Sem.wp_cmd_standAt, Sem.wp_operate] at h ⊢
  exact Sem.wp_mono M Γ _ (fun a p₁ s₁ h₁ => Sem.wp_mono M Γ _ (fun b _ s₂ h₂ => Sem.wp_mono M Γ _ (fun c p₃ s₃ h₃ => h₃ Γ p₃ hΓ)
    (fun _ _ _ h' => h') _ _ h₂) (fun _ _ _ h' => h') _ _ h₁) (fun _ _ _ h' => h') _ _ h
theorem d_testC {o : CmpOp} (h : PE X (.Compare a [o] [b] pos) (tP mg fe)) : PT X (.Compare a [o] [b] pos) (tT mg (bOf fe)) := by
  refine ⟨fun pins s σ H Q I q => ?_⟩
  refine test_cmp (thn (h.run pins s σ H _ I (r_bOf q)) fun c s3 ⟨z, H3, I3, r3, e3⟩ => ?_)
  obtain ⟨k, e, q3⟩ := e3
  subst e
  cases r3
  exact wpAny_truthy_bool ⟨H3, I3, q3⟩
end

/-! ### and, or, not as values of truth values; if; minus -/
def eAnd (f g : SE) : SE := fun env st => match f env st with
  | some (.bl true, s1) => g env s1
  | some (.bl false, s1) => some (.bl false, s1)
  | _ => none
def eOr (f g : SE) : SE := fun env st => match f env st with
  | some (.bl true, s1) => some (.bl true, s1)
  | some (.bl false, s1) => g env s1
  | _ => none
def eNot (f : SE) : SE := fun env st => match f env st with
  | some (.bl b, s1) => some (.bl (!b), s1)
  | _ => none
def eIf {α : Type} (t : SB) (f g : Fx α) : Fx α := fun env st => match t env st with
  | some (true, s1) => f env s1
  | some (false, s1) => g env s1
  | none => none
def eNeg (f : SE) : SE := fun env st => match f env st with
  | some (.int i, s1) => some (.int (-i), s1)
  | _ => none
section
variable {X : Cx} {mg : Glob} {e a b : Expr} {rest : List Expr} {pos : Pos} {fe fa fb : SE} {ta tb tc : SB}
theorem r_andV {σ : L2.St} {H : Hp} {Q : VK} (h : tE mg (eAnd fa fb) σ H Q) : tAndV (tP mg fa) (tE mg fb) σ H Q := by
  obtain ⟨E, N, c, env, st, d, st', R, q, k⟩ := h
  unfold eAnd at q
  split at q
  · rename_i s1 q1
    refine ⟨E, N, c, env, st, _, s1, R, q1, fun v N1 c1 H1 x1 W1 r1 => ⟨true, r1.bl, iteT ?_⟩⟩
    exact ⟨E, N1, c1, env, s1, d, st', R.ex x1 W1, q, fun v N2 c2 H2 x2 W2 r2 => k v N2 c2 H2 (x1.trans x2 R.wd) W2 r2⟩
  · rename_i s1 q1
    cases q
    exact ⟨E, N, c, env, st, _, _, R, q1, fun v N1 c1 H1 x1 W1 r1 => ⟨false, r1.bl, iteF (k _ N1 c1 H1 x1 W1 (.bl false))⟩⟩
  · cases q
theorem r_orV {σ : L2.St} {H : Hp} {Q : VK} (h : tE mg (eOr fa fb) σ H Q) : tOrV (tP mg fa) (tE mg fb) σ H Q := by
  obtain ⟨E, N, c, env, st, d, st', R, q, k⟩ := h
  unfold eOr at q
  split at q
  · rename_i s1 q1
    cases q
    exact ⟨E, N, c, env, st, _, _, R, q1, fun v N1 c1 H1 x1 W1 r1 => ⟨true, r1.bl, iteT (k _ N1 c1 H1 x1 W1 (.bl true))⟩⟩
  · rename_i s1 q1
    refine ⟨E, N, c, env, st, _, s1, R, q1, fun v N1 c1 H1 x1 W1 r1 => ⟨false, r1.bl, iteF ?_⟩⟩
    exact ⟨E, N1, c1, env, s1, d, st', R.ex x1 W1, q, fun v N2 c2 H2 x2 W2 r2 => k v N2 c2 H2 (x1.trans x2 R.wd) W2 r2⟩
  · cases q
theorem r_notV {σ : L2.St} {H : Hp} {Q : VK} (h : tE mg (eNot fa) σ H Q) : tNotV (tP mg fa) σ H Q := by
  obtain ⟨E, N, c, env, st, d, st', R, q, k⟩ := h
  unfold eNot at q
  split at q
  · rename_i b s1 q1
    cases q
    exact ⟨E, N, c, env, st, _, _, R, q1, fun v N1 c1 H1 x1 W1 r1 => ⟨b, r1.bl, k _ N1 c1 H1 x1 W1 (.bl _)⟩⟩
  · cases q
theorem r_if {α : Type} {Rt : Told α} (hb : Back mg Rt) {f g : Fx α} {σ : L2.St} {H : Hp} {Q : VK} (h : tX mg Rt (eIf ta f g) σ H Q) : tIf (tT mg ta) (tX mg Rt f) (tX mg Rt g) σ H Q := by
  obtain ⟨E, N, c, env, st, d, st', R, q, k⟩ := h
  unfold eIf at q
  split at q
  · rename_i s1 q1
    refine ⟨E, N, c, env, st, _, s1, R, q1, fun N1 c1 H1 x1 W1 => iteT ?_⟩
    exact ⟨E, N1, c1, env, s1, d, st', R.ex x1 W1, q, fun v N2 c2 H2 x2 W2 r2 => k v N2 c2 H2 (x1.trans x2 R.wd) W2 (hb R.wd x1 W1 r2)⟩
  · rename_i s1 q1
    refine ⟨E, N, c, env, st, _, s1, R, q1, fun N1 c1 H1 x1 W1 => iteF ?_⟩
    exact ⟨E, N1, c1, env, s1, d, st', R.ex x1 W1, q, fun v N2 c2 H2 x2 W2 r2 => k v N2 c2 H2 (x1.trans x2 R.wd) W2 (hb R.wd x1 W1 r2)⟩
  · cases q
theorem r_neg {σ : L2.St} {H : Hp} {Q : VK} (h : tE mg (eNeg fa) σ H Q) : tUn (rU fun i => .int (-i)) (tP mg fa) σ H Q := by
  obtain ⟨E, N, c, env, st, d, st', R, q, k⟩ := h
  unfold eNeg at q
  split at q
  · rename_i i s1 q1
    cases q
    exact ⟨E, N, c, env, st, _, _, R, q1, fun v N1 c1 H1 x1 W1 r1 => ⟨i, r1.int, k _ N1 c1 H1 x1 W1 (.int _)⟩⟩
  · cases q
theorem v_one {op : BoolOp} (ha : PE X a (tE mg fa)) : PE X (.BoolOp op [a] pos) (tE mg fa) := pe_one ha
theorem v_and (ha : PE X a (tP mg fa)) (hb : PE X (.BoolOp .And (b :: rest) pos) (tE mg fb)) : PE X (.BoolOp .And (a :: b :: rest) pos) (tE mg (eAnd fa fb)) := pe_weak (pe_and ha hb) fun _ _ _ q => r_andV q
theorem v_or (ha : PE X a (tP mg fa)) (hb : PE X (.BoolOp .Or (b :: rest) pos) (tE mg fb)) : PE X (.BoolOp .Or (a :: b :: rest) pos) (tE mg (eOr fa fb)) := pe_weak (pe_or ha hb) fun _ _ _ q => r_orV q
theorem v_not (ha : PE X a (tP mg fa)) : PE X (.UnaryOp .Not a pos) (tE mg (eNot fa)) := pe_weak (pe_not ha) fun _ _ _ q => r_notV q
theorem d_if {c : Expr} (hc : PT X c (tT mg tc)) (ha : PE X a (tE mg fa)) (hb : PE X b (tE mg fb)) : PE X (.IfExp c a b pos) (tE mg (eIf tc fa fb)) := pe_weak (pe_ifExp hc ha hb) fun _ _ _ q => r_if (Rt := RE mg) back_E q
theorem d_neg (ha : PE X a (tP mg fa)) : PE X (.UnaryOp .USub a pos) (tE mg (eNeg fa)) := pe_weak (pe_un un_neg ha) fun _ _ _ q => r_neg q
end
end LW

/-! LwD: argument lists, displays, subscripts, slices, built-in calls, attributes. -/
namespace LW
open PySem L2 PyProof.Rows

/-! ### argument lists -/
inductive RepTL (mg : Glob) (N : Prot) (c : List Addr) (H : Hp) : List V → List D → Prop where
  | nil : RepTL mg N c H [] []
  | cons {v : V} {d : D} {vs : List V} {ds : List D} (h : RepT mg N c H v d) (t : RepTL mg N c H vs ds) : RepTL mg N c H (v :: vs) (d :: ds)
abbrev SA := Fx (List D)
abbrev ToldA := Prot → List Addr → Hp → List V → List D → Prop
def tAX (mg : Glob) (R : ToldA) (f : SA) : TA := fun σ H Q => ∃ (E : En) (N : Prot) (c : List Addr) (env : Env) (st : Sto) (d : List D) (st' : Sto), Rel mg E N c env st σ H ∧ f env st = some (d, st') ∧
  ∀ vs N' c' H', Ex N c H N' c' H' → Wd mg N' c' H' st' → R N' c' H' vs d → Q vs H'
abbrev tA (mg : Glob) (f : SA) : TA := tAX mg (RepL mg) f
abbrev tAP (mg : Glob) (f : SA) : TA := tAX mg (RepTL mg) f
def aNil : SA := fun _ st => some ([], st)
def aCons (f : SE) (g : SA) : SA := fun env st => match f env st with
  | none => none
  | some (d, s1) => match g env s1 with
    | none => none
    | some (ds, s2) => some (d :: ds, s2)
section
variable {mg : Glob} {X : Cx} {e : Expr} {es : List Expr} {f : SE} {g : SA}
theorem RepTL.ex {N N' : Prot} {c c' : List Addr} {H H' : Hp} {st : Sto} (x : Ex N c H N' c' H') (W : Wd mg N c H st) : ∀ {vs : List V} {ds : List D}, RepTL mg N c H vs ds → RepTL mg N' c' H' vs ds
  | _, _, .nil => .nil
  | _, _, .cons h t => .cons (RepT.ex x W h) (RepTL.ex x W t)
theorem RepL.toT {N : Prot} {c : List Addr} {H : Hp} : ∀ {vs : List V} {ds : List D}, RepL mg N c H vs ds → RepTL mg N c H vs ds
  | _, _, .nil => .nil
  | _, _, .cons h t => .cons (.inl h) (RepL.toT t)
theorem a_nil : PA X [] (tA mg aNil) := pa_weak pa_nil fun σ H Q ⟨E, N, c, env, st, d, st', R, q, k⟩ => by
  cases q
  exact k [] N c H Ex.refl R.wd .nil
theorem p_nil : PA X [] (tAP mg aNil) := pa_weak pa_nil fun σ H Q ⟨E, N, c, env, st, d, st', R, q, k⟩ => by
  cases q
  exact k [] N c H Ex.refl R.wd .nil
theorem a_cons (ha : PE X e (tE mg f)) (hr : PA X es (tA mg g)) (hs : starEach (e :: es) X.env = (false, eval e X.env) :: starEach es X.env := by rfl) : PA X (e :: es) (tA mg (aCons f g)) := pa_weak (pa_cons ha hr hs) fun σ H Q ⟨E, N, c, env, st, d, st', R, q, k⟩ => by
  unfold aCons at q
  split at q
  · cases q
  · rename_i d1 s1 q1
    split at q
    · cases q
    · rename_i ds s2 q2
      cases q
      refine ⟨E, N, c, env, st, d1, s1, R, q1, fun v N1 c1 H1 x1 W1 r1 => ?_⟩
      exact ⟨E, N1, c1, env, s1, ds, _, R.ex x1 W1, q2, fun vs N2 c2 H2 x2 W2 r2 => k _ N2 c2 H2 (x1.trans x2 R.wd) W2 (.cons (Rep.tr (x2.tr W1) r1) r2)⟩
theorem p_cons (ha : PE X e (tP mg f)) (hr : PA X es (tAP mg g)) (hs : starEach (e :: es) X.env = (false, eval e X.env) :: starEach es X.env := by rfl) : PA X (e :: es) (tAP mg (aCons f g)) := pa_weak (pa_cons ha hr hs) fun σ H Q ⟨E, N, c, env, st, d, st', R, q, k⟩ => by
  unfold aCons at q
  split at q
  · cases q
  · rename_i d1 s1 q1
    split at q
    · cases q
    · rename_i ds s2 q2
      cases q
      refine ⟨E, N, c, env, st, d1, s1, R, q1, fun v N1 c1 H1 x1 W1 r1 => ?_⟩
      exact ⟨E, N1, c1, env, s1, ds, _, R.ex x1 W1, q2, fun vs N2 c2 H2 x2 W2 r2 => k _ N2 c2 H2 (x1.trans x2 R.wd) W2 (.cons (RepT.ex x2 W1 r1) r2)⟩
end

/-! ### displays -/
def eTup (f : SA) : SE := fun env st => match f env st with
  | none => none
  | some (ds, s1) => if ds.length ≤ 1000000 then some (.tup ds, s1) else none
def lDisp (f : SA) : Fx (List D) := fun env st => match f env st with
  | none => none
  | some (ds, s1) => if ds.length ≤ 1000000 then some (ds, s1) else none
section
variable {mg : Glob} {X : Cx} {es : List Expr} {pos : Pos} {g : SA}
theorem d_tup {x1} (h : PA X es (tA mg g)) : PE X (.Tuple es x1 pos) (tE mg (eTup g)) := pe_weak (pe_tup h) fun σ H Q ⟨E, N, c, env, st, d, st', R, q, k⟩ => by
  unfold eTup at q
  split at q
  · cases q
  · rename_i ds s1 q1
    split at q
    · rename_i hl
      cases q
      refine ⟨E, N, c, env, st, ds, _, R, q1, fun vs N1 c1 H1 x1 W1 r1 => ⟨sz6 (by rw [r1.length]; exact hl), fun p hp => ?_⟩⟩
      exact k _ _ _ _ (x1.trans (Ex.laid W1 hp) R.wd) (W1.laid hp) (Rep.laidT W1 hp r1)
    · cases q
theorem d_lst (h : PA X es (tA mg g)) : PE X (.List es pos) (tL mg (lDisp g)) := pe_weak (pe_lst h) fun σ H Q ⟨E, N, c, env, st, d, st', R, q, k⟩ => by
  unfold lDisp at q
  split at q
  · cases q
  · rename_i ds s1 q1
    split at q
    · rename_i hl
      cases q
      refine ⟨E, N, c, env, st, _, _, R, q1, fun vs N1 c1 H1 x1 W1 r1 => ⟨sz6 (by rw [r1.length]; exact hl), fun p hp => ?_⟩⟩
      exact k _ _ _ _ (x1.trans (Ex.laidN W1 hp) R.wd) (W1.laidN hp) (back_N R.wd x1 W1 (RN.laid W1 hp r1))
    · cases q
end

/-! ### subscripts -/
def oIx : D → D → Sto → Option D := fun x y st => match y with
  | .int i => match x with
    | .tup xs => atI xs i
    | .str z => if z.length ≤ 1000000 then (match atI z.cps.toList i with | some ch => some (.str ⟨#[ch]⟩) | none => none) else none
    | x => match lstR st x with
      | some xs => atI xs i
      | none => none
  | _ => none
theorem RepL.atI {mg : Glob} {N : Prot} {c : List Addr} {H : Hp} {vs : List V} {ds : List D} {i : Int} {d : D} (r : RepL mg N c H vs ds) (h : L2.atI ds i = some d) : ∃ v, L2.atI vs i = some v ∧ Rep mg N c H v d := by
  unfold L2.atI at h ⊢
  rw [r.length]
  cases e : ixN ds.length i with
  | none => rw [e] at h; cases h
  | some j =>
    rw [e] at h
    exact r.get h
theorem ok_ix {mg : Glob} : OpOk mg (RE mg) (rIx mg.K) oIx := by
  intro N c H st u v x y d Q W p1 p2 e k
  unfold oIx at e
  split at e
  · rename_i i
    split at e
    · rename_i xs
      obtain ⟨a, vs, rfl, ha, r⟩ := p1.tup
      obtain ⟨w, hw, rw_⟩ := r.atI e
      exact .inr (.inl ⟨a, vs, i, w, rfl, p2.int, SqT.of ha, hw, k w N c H Ex.refl W rw_⟩)
    · rename_i z
      split at e
      · rename_i hl
        split at e
        · rename_i ch hch
          cases e
          exact .inr (.inr ⟨z, i, ch, p1.str, p2.int, sz6 hl, hch, k _ N c H Ex.refl W (.str _)⟩)
        · cases e
      · cases e
    · split at e
      · rename_i xs hx
        obtain ⟨a, vs, rfl, ha, r⟩ := RepT.read W p1 hx
        obtain ⟨w, hw, rw_⟩ := r.atI e
        exact .inl ⟨a, vs, i, w, rfl, p2.int, ha, hw, k w N c H Ex.refl W rw_⟩
      · cases e
  · cases e
section
variable {mg : Glob} {X : Cx} {a b : Expr} {pos p2 : Pos} {fa fb : SE}
theorem d_ix (ha : PE X a (tP mg fa)) (hb : PE X b (tP mg fb)) (hs : PlainIx b := by exact fun _ _ => rfl) (hK : X.K = mg.K := by rfl) : PE X (.Subscript a b pos) (tE mg (eOp oIx fa fb)) := pe_weak (pe_ix (hK ▸ ix_seq) ha hb hs) fun _ _ _ h => r_op ok_ix back_E h
end

/-! ### slices -/
def cutD {α : Type} (xs : List α) (lo hi : Option Int) : List α := (xs.drop (HT.sIx xs.length 0 lo)).take (HT.sIx xs.length xs.length hi - HT.sIx xs.length 0 lo)
/-- a part of a slice -/
abbrev SO := Fx (Option Int)
def tOX (mg : Glob) (f : SO) : TO := fun σ H Q => ∃ (E : En) (N : Prot) (c : List Addr) (env : Env) (st : Sto) (d : Option Int) (st' : Sto), Rel mg E N c env st σ H ∧ f env st = some (d, st') ∧
  ∀ N' c' H', Ex N c H N' c' H' → Wd mg N' c' H' st' → Q d H'
def oNone : SO := fun _ st => some (none, st)
def oSome (f : SE) : SO := fun env st => match f env st with
  | some (.int i, s1) => some (some i, s1)
  | _ => none
def eSl {α : Type} (op : D → Option Int → Option Int → Sto → Option α) (f : SE) (lo hi : SO) : Fx α := fun env st => match f env st with
  | none => none
  | some (x, s1) => match lo env s1 with
    | none => none
    | some (l, s2) => match hi env s2 with
      | none => none
      | some (h, s3) => match op x l h s3 with
        | none => none
        | some d => some (d, s3)
def slL : D → Option Int → Option Int → Sto → Option (List D) := fun x lo hi st => match lstR st x with
  | some xs => some (cutD xs lo hi)
  | none => none
def slT : D → Option Int → Option Int → Sto → Option D := fun x lo hi _ => match x with
  | .tup xs => some (.tup (cutD xs lo hi))
  | _ => none
theorem po_weak {X : Cx} {e : Option Expr} {t t' : TO} (h : PO X e t) (w : ∀ σ H Q, t' σ H Q → t σ H Q) : PO X e t' := ⟨fun pins s σ H Q I q => h.run pins s σ H Q I (w σ H Q q)⟩
section
variable {mg : Glob} {X : Cx} {e : Expr} {lo hi : Option Expr} {pos p2 : Pos} {f : SE} {gl gh : SO}
theorem o_none : PO X none (tOX mg oNone) := po_weak po_none fun σ H Q ⟨E, N, c, env, st, d, st', R, q, k⟩ => by
  cases q
  exact k N c H Ex.refl R.wd
theorem o_some (h : PE X e (tP mg f)) : PO X (some e) (tOX mg (oSome f)) := po_weak (po_some h) fun σ H Q ⟨E, N, c, env, st, d, st', R, q, k⟩ => by
  unfold oSome at q
  split at q
  · rename_i i s1 q1
    cases q
    exact ⟨E, N, c, env, st, _, _, R, q1, fun v N1 c1 H1 x1 W1 r1 => ⟨i, r1.int, k N1 c1 H1 x1 W1⟩⟩
  · cases q
def SlOk {α : Type} (mg : Glob) (R : Told α) (r : V → Option Int → Option Int → Hp → VK → Prop) (op : D → Option Int → Option Int → Sto → Option α) : Prop := ∀ (N : Prot) (c : List Addr) (H : Hp) (st : Sto) (u : V) (lo hi : Option Int) (x : D) (d : α) (Q : VK), Wd mg N c H st → RepT mg N c H u x → op x lo hi st = some d →
  (∀ w N' c' H', Ex N c H N' c' H' → Wd mg N' c' H' st → R N c H N' c' H' w d → Q w H') → r u lo hi H Q
theorem r_sl {α : Type} {Rt : Told α} {r : V → Option Int → Option Int → Hp → VK → Prop} {op : D → Option Int → Option Int → Sto → Option α} (hk : SlOk mg Rt r op) (hb : Back mg Rt) {σ : L2.St} {H : Hp} {Q : VK} (h : tX mg Rt (eSl op f gl gh) σ H Q) : tSl r (tP mg f) (tOX mg gl) (tOX mg gh) σ H Q := by
  obtain ⟨E, N, c, env, st, d, st', R0, q, k⟩ := h
  unfold eSl at q
  split at q
  · cases q
  · rename_i x s1 q1
    split at q
    · cases q
    · rename_i l s2 q2
      split at q
      · cases q
      · rename_i hh s3 q3
        split at q
        · cases q
        · rename_i d0 q4
          cases q
          refine ⟨E, N, c, env, st, x, s1, R0, q1, fun v1 N1 c1 H1 x1 W1 p1 => ?_⟩
          refine ⟨E, N1, c1, env, s1, l, s2, R0.ex x1 W1, q2, fun N2 c2 H2 x2 W2 => ?_⟩
          have x12 := x1.trans x2 R0.wd
          refine ⟨E, N2, c2, env, s2, hh, _, R0.ex x12 W2, q3, fun N3 c3 H3 x3 W3 => ?_⟩
          have x13 := x12.trans x3 R0.wd
          refine hk N3 c3 H3 _ v1 l hh x _ Q W3 (RepT.ex x3 W2 (RepT.ex x2 W1 p1)) q4 fun w N' c' H' x4 W4 p4 => ?_
          exact k w N' c' H' (x13.trans x4 R0.wd) W4 (hb R0.wd x13 W3 p4)
theorem RepL.cut {N : Prot} {c : List Addr} {H : Hp} {vs : List V} {ds : List D} (r : RepL mg N c H vs ds) (lo hi : Option Int) : RepL mg N c H (cutV vs lo hi) (cutD ds lo hi) := by
  unfold cutV cutD
  rw [r.length]
  exact (r.drop _).take _
theorem ok_slL : SlOk mg (RN mg) (rSlL mg.K) slL := by
  intro N c H st u lo hi x d Q W p1 e k
  unfold slL at e
  split at e
  · rename_i xs hx
    cases e
    obtain ⟨a, vs, rfl, ha, r⟩ := RepT.read W p1 hx
    exact ⟨a, vs, rfl, ha, fun p hp => k _ _ _ _ (Ex.laidN W hp) (W.laidN hp) (RN.laid W hp (r.cut lo hi))⟩
  · cases e
theorem cut_whole {α : Type} {xs : List α} {lo hi : Option Int} (h : HT.sIx xs.length 0 lo = 0 ∧ HT.sIx xs.length xs.length hi = xs.length) : cutD xs lo hi = xs := by
  unfold cutD
  rw [h.1, h.2, List.drop_zero, Nat.sub_zero, List.take_length]
theorem ok_slT {K : PySem.W.Frag} : SlOk mg (RE mg) (rSlA K) slT := by
  intro N c H st u lo hi x d Q W p1 e k
  unfold slT at e
  split at e
  · rename_i xs
    cases e
    have p1' := p1
    obtain ⟨a, vs, rfl, ha, r⟩ := p1.tup
    have rep : Rep mg N c H (.ref a) (.tup xs) := by
      rcases p1' with z | ⟨_, _, _, _, z, _⟩
      · exact z
      · cases z
    refine ⟨a, vs, rfl, SqT.of ha, fun hw => ?_, fun _ p hp => ?_⟩
    · rw [r.length] at hw
      rw [cut_whole hw] at k
      exact k _ N c H Ex.refl W rep
    · exact k _ _ _ _ (Ex.laid W hp) (W.laid hp) (Rep.laidT W hp (r.cut lo hi))
  · cases e
theorem d_slL (he : PE X e (tP mg f)) (hl : PO X lo (tOX mg gl)) (hu : PO X hi (tOX mg gh)) (hK : X.K = mg.K := by rfl) : PE X (.Subscript e (.Slice lo hi none p2) pos) (tL mg (eSl slL f gl gh)) := pe_weak (pe_slice (hK ▸ sl_list) he hl hu) fun _ _ _ h => r_sl ok_slL back_N h
theorem d_slT (he : PE X e (tP mg f)) (hl : PO X lo (tOX mg gl)) (hu : PO X hi (tOX mg gh)) : PE X (.Subscript e (.Slice lo hi none p2) pos) (tE mg (eSl slT f gl gh)) := pe_weak (pe_slice sl_tupA he hl hu) fun _ _ _ h => r_sl ok_slT back_E h
end
end LW

/-! LwE: built-in calls; defs by their promise, calls of defs, methods, classes, properties. -/
namespace LW
open PySem L2 PyProof.Rows

/-! ### built-in calls -/
def eBi {α : Type} (g : List D → Sto → Option α) (f : SA) : Fx α := fun env st => match f env st with
  | none => none
  | some (ds, s1) => match g ds s1 with
    | none => none
    | some d => some (d, s1)
def BiOk {α : Type} (mg : Glob) (R : Told α) (r : List V → Hp → VK → Prop) (g : List D → Sto → Option α) : Prop := ∀ (N : Prot) (c : List Addr) (H : Hp) (st : Sto) (us : List V) (ds : List D) (d : α) (Q : VK), Wd mg N c H st → RepTL mg N c H us ds → g ds st = some d →
  (∀ w N' c' H', Ex N c H N' c' H' → Wd mg N' c' H' st → R N c H N' c' H' w d → Q w H') → r us H Q
def orB {α : Type} (f g : List D → Sto → Option α) : List D → Sto → Option α := fun ds st => match f ds st with
  | some d => some d
  | none => g ds st
section
variable {α : Type} {mg : Glob} {R : Told α} {r r' : List V → Hp → VK → Prop} {g g' : List D → Sto → Option α} {f : SA} {X : Cx} {x : Str} {e : Expr} {es : List Expr} {p pos : Pos}
theorem BiOk.or (h : BiOk mg R r g) (h' : BiOk mg R r' g') : BiOk mg R (fun xs H Q => r xs H Q ∨ r' xs H Q) (orB g g') := by
  intro N c H st us ds d Q W p q k
  unfold orB at q
  split at q
  · rename_i d0 e0
    cases q
    exact .inl (h N c H st us ds _ Q W p e0 k)
  · exact .inr (h' N c H st us ds d Q W p q k)
theorem r_bi (hk : BiOk mg R r g) (hb : Back mg R) {σ : L2.St} {H : Hp} {Q : VK} (h : tX mg R (eBi g f) σ H Q) : tCB r (tAP mg f) σ H Q := by
  obtain ⟨E, N, c, env, st, d, st', R0, q, k⟩ := h
  unfold eBi at q
  split at q
  · cases q
  · rename_i ds s1 q1
    split at q
    · cases q
    · rename_i d0 q2
      cases q
      refine ⟨E, N, c, env, st, ds, _, R0, q1, fun vs N1 c1 H1 x1 W1 p1 => ?_⟩
      refine hk N1 c1 H1 _ vs ds _ Q W1 p1 q2 fun w N' c' H' x2 W2 p2 => ?_
      exact k w N' c' H' (x1.trans x2 R0.wd) W2 (hb R0.wd x1 W1 p2)
/-- f(e, ..), f a built-in function; T(e, ..), T a built-in class -/
theorem d_bi {id : String} (hc : CallR X (.builtin id) r) (hk : BiOk mg R r g) (hb : Back mg R) (hg : Gl X x) (hm : X.mg x = none) (hv : bootBuiltins x = some (.builtin id)) (ha : PA X (e :: es) (tAP mg f)) (hn : x ≠ "__name__" := by decide) (hdb : (x == ("__debug__" : Str)) = false := by decide)
    (he : starEach (e :: es) X.env = (false, eval e X.env) :: starEach es X.env := by rfl) (hpl : (backTo pos (starEach es X.env)).any (·.1) = false := by rfl) : PE X (.Call (.Name x p) (e :: es) [] pos) (tX mg R (eBi g f)) :=
  pe_weak (pe_callB hc hg hm hv ha hn hdb he hpl) fun _ _ _ h => r_bi hk hb h
theorem d_bt {T : String} (hc : CallR X (.type T) r) (hk : BiOk mg R r g) (hb : Back mg R) (hg : Gl X x) (hm : X.mg x = none) (hv : bootBuiltins x = some (.type T)) (ha : PA X (e :: es) (tAP mg f)) (hn : x ≠ "__name__" := by decide) (hdb : (x == ("__debug__" : Str)) = false := by decide)
    (he : starEach (e :: es) X.env = (false, eval e X.env) :: starEach es X.env := by rfl) (hpl : (backTo pos (starEach es X.env)).any (·.1) = false := by rfl) : PE X (.Call (.Name x p) (e :: es) [] pos) (tX mg R (eBi g f)) :=
  pe_weak (pe_callTy hc hg hm hv ha hn hdb he hpl) fun _ _ _ h => r_bi hk hb h
end
section
variable {mg : Glob} {N : Prot} {c : List Addr} {H : Hp} {us : List V}
theorem tl1 {d : D} (h : RepTL mg N c H us [d]) : ∃ u, us = [u] ∧ RepT mg N c H u d := by
  cases h with
  | cons h t => cases t; exact ⟨_, rfl, h⟩
theorem tl2 {d d' : D} (h : RepTL mg N c H us [d, d']) : ∃ u u', us = [u, u'] ∧ RepT mg N c H u d ∧ RepT mg N c H u' d' := by
  cases h with
  | cons h t => obtain ⟨u', rfl, h'⟩ := tl1 t; exact ⟨_, _, rfl, h, h'⟩
end
/-- len of a list, a tuple, a text -/
def gLen : List D → Sto → Option D := fun ds st => match ds with
  | [.tup xs] => some (.int xs.length)
  | [.str z] => if z.length ≤ 1000000 then some (.int z.length) else none
  | [x] => match lstR st x with
    | some xs => some (.int xs.length)
    | none => none
  | _ => none
theorem ok_len {mg : Glob} : BiOk mg (RE mg) (fun xs H Q => (∃ p ys, xs = [.ref p] ∧ (SqL mg.K H p ys ∨ SqT mg.K H p ys) ∧ Q (.int ys.length) H) ∨ ∃ z, xs = [.str z] ∧ z.length ≤ sizeLine ∧ Q (.int z.length) H) gLen := by
  intro N c H st us ds d Q W p q k
  unfold gLen at q
  split at q
  · rename_i xs
    cases q
    obtain ⟨u, rfl, h⟩ := tl1 p
    obtain ⟨a, vs, rfl, ha, r⟩ := h.tup
    refine .inl ⟨a, vs, rfl, .inr (SqT.of ha), ?_⟩
    rw [r.length]
    exact k _ N c H Ex.refl W (.int _)
  · rename_i z
    split at q
    · rename_i hl
      cases q
      obtain ⟨u, rfl, h⟩ := tl1 p
      exact .inr ⟨z, by rw [h.str], sz6 hl, k _ N c H Ex.refl W (.int _)⟩
    · cases q
  · split at q
    · rename_i xs hx
      cases q
      obtain ⟨u, rfl, h⟩ := tl1 p
      obtain ⟨a, vs, rfl, ha, r⟩ := RepT.read W h hx
      refine .inl ⟨a, vs, rfl, .inl ha, ?_⟩
      rw [r.length]
      exact k _ N c H Ex.refl W (.int _)
    · cases q
  · cases q
/-- a list of whole numbers -/
def intsOf : List D → Option (List Int)
  | [] => some []
  | .int i :: r => match intsOf r with
    | some ns => some (i :: ns)
    | none => none
  | _ :: _ => none
theorem intsOf_eq : ∀ {xs : List D} {ns : List Int}, intsOf xs = some ns → xs = ns.map D.int
  | [], _, e => by cases e; rfl
  | .int i :: r, ns, e => by
    unfold intsOf at e
    split at e
    · rename_i ms hm
      cases e
      rw [intsOf_eq hm]; rfl
    · cases e
  | .non :: _, _, e => by cases e
  | .bl _ :: _, _, e => by cases e
  | .str _ :: _, _, e => by cases e
  | .ty _ :: _, _, e => by cases e
  | .tup _ :: _, _, e => by cases e
  | .lst _ :: _, _, e => by cases e
  | .fro _ :: _, _, e => by cases e
  | .cell _ :: _, _, e => by cases e
  | .obj _ _ _ :: _, _, e => by cases e
  | .cls _ :: _, _, e => by cases e
  | .dic _ _ :: _, _, e => by cases e
  | .dit _ _ :: _, _, e => by cases e
theorem intsOf_map : ∀ (ns : List Int), intsOf (ns.map D.int) = some ns
  | [] => rfl
  | n :: r => by
    show (match intsOf (r.map D.int) with | some ns => some (n :: ns) | none => none) = _
    rw [intsOf_map r]
def lstI (st : Sto) (x : D) : Option (List Int) := match lstR st x with
  | some xs => intsOf xs
  | none => none
theorem RepT.ints {mg : Glob} {N : Prot} {c : List Addr} {H : Hp} {st : Sto} {u : V} {x : D} {ns : List Int} (W : Wd mg N c H st) (h : RepT mg N c H u x) (e : lstI st x = some ns) : ∃ a, u = .ref a ∧ SqL mg.K H a (ns.map V.int) := by
  unfold lstI at e
  split at e
  · rename_i xs hx
    obtain ⟨a, vs, rfl, ha, r⟩ := RepT.read W h hx
    rw [intsOf_eq e] at r
    rw [r.of_ints] at ha
    exact ⟨a, rfl, ha⟩
  · cases e
def gSum : List D → Sto → Option D := fun ds st => match ds with
  | [x] => match lstI st x with
    | some ns => some (.int ns.sum)
    | none => none
  | _ => none
theorem ok_sum {mg : Glob} : BiOk mg (RE mg) (rSum mg.K) gSum := by
  intro N c H st us ds d Q W p q k
  unfold gSum at q
  split at q
  · split at q
    · rename_i ns hn
      cases q
      obtain ⟨u, rfl, h⟩ := tl1 p
      obtain ⟨a, rfl, ha⟩ := h.ints W hn
      exact ⟨a, ns, rfl, ha, k _ N c H Ex.refl W (.int _)⟩
    · cases q
  · cases q
def maxL : List Int → Option Int
  | [] => none
  | x :: r => match maxL r with
    | none => some x
    | some m => some (if m < x then x else m)
def minL : List Int → Option Int
  | [] => none
  | x :: r => match minL r with
    | none => some x
    | some m => some (if x < m then x else m)
theorem maxL_ok : ∀ {l : List Int} {m : Int}, maxL l = some m → m ∈ l ∧ ∀ y ∈ l, y ≤ m
  | [], _, e => by cases e
  | x :: r, m, e => by
    unfold maxL at e
    cases h : maxL r with
    | none =>
      rw [h] at e
      cases e
      cases r with
      | nil => exact ⟨List.mem_cons_self, fun y hy => by simp at hy; omega⟩
      | cons z t =>
        unfold maxL at h
        split at h <;> cases h
    | some k =>
      rw [h] at e
      dsimp only at e
      obtain ⟨h1, h2⟩ := maxL_ok h
      split at e
      · cases e
        exact ⟨List.mem_cons_self, fun y hy => (List.mem_cons.mp hy).elim (fun e => by omega) fun z => by have := h2 y z; omega⟩
      · cases e
        exact ⟨List.mem_cons_of_mem _ h1, fun y hy => (List.mem_cons.mp hy).elim (fun e => by omega) fun z => h2 y z⟩
theorem minL_ok : ∀ {l : List Int} {m : Int}, minL l = some m → m ∈ l ∧ ∀ y ∈ l, m ≤ y
  | [], _, e => by cases e
  | x :: r, m, e => by
    unfold minL at e
    cases h : minL r with
    | none =>
      rw [h] at e
      cases e
      cases r with
      | nil => exact ⟨List.mem_cons_self, fun y hy => by simp at hy; omega⟩
      | cons z t =>
        unfold minL at h
        split at h <;> cases h
    | some k =>
      rw [h] at e
      dsimp only at e
      obtain ⟨h1, h2⟩ := minL_ok h
      split at e
      · cases e
        exact ⟨List.mem_cons_self, fun y hy => (List.mem_cons.mp hy).elim (fun e => by omega) fun z => by have := h2 y z; omega⟩
      · cases e
        exact ⟨List.mem_cons_of_mem _ h1, fun y hy => (List.mem_cons.mp hy).elim (fun e => by omega) fun z => h2 y z⟩
def gMax : List D → Sto → Option D := fun ds st => match ds with
  | [.int i, .int j] => some (.int (if j > i then j else i))
  | [x] => match lstI st x with
    | some ns => match maxL ns with
      | some m => some (.int m)
      | none => none
    | none => none
  | _ => none
def gMin : List D → Sto → Option D := fun ds st => match ds with
  | [.int i, .int j] => some (.int (if j < i then j else i))
  | [x] => match lstI st x with
    | some ns => match minL ns with
      | some m => some (.int m)
      | none => none
    | none => none
  | _ => none
theorem ok_max {mg : Glob} : BiOk mg (RE mg) (fun xs H Q => (∃ i j, xs = [.int i, .int j] ∧ Q (.int (if j > i then j else i)) H) ∨ rMax mg.K xs H Q) gMax := by
  intro N c H st us ds d Q W p q k
  unfold gMax at q
  split at q
  · rename_i i j
    cases q
    obtain ⟨u, u', rfl, h, h'⟩ := tl2 p
    exact .inl ⟨i, j, by rw [h.int, h'.int], k _ N c H Ex.refl W (.int _)⟩
  · split at q
    · rename_i ns hn
      split at q
      · rename_i m hm
        cases q
        obtain ⟨u, rfl, h⟩ := tl1 p
        obtain ⟨a, rfl, ha⟩ := h.ints W hn
        obtain ⟨h1, h2⟩ := maxL_ok hm
        refine .inr ⟨a, ns, rfl, ha, List.length_pos_of_mem h1, fun m' h3 h4 => ?_⟩
        have e : m' = m := by
          have := h2 m' h3
          have := h4 m h1
          omega
        rw [e]
        exact k _ N c H Ex.refl W (.int _)
      · cases q
    · cases q
  · cases q
theorem ok_min {mg : Glob} : BiOk mg (RE mg) (fun xs H Q => (∃ i j, xs = [.int i, .int j] ∧ Q (.int (if j < i then j else i)) H) ∨ rMin mg.K xs H Q) gMin := by
  intro N c H st us ds d Q W p q k
  unfold gMin at q
  split at q
  · rename_i i j
    cases q
    obtain ⟨u, u', rfl, h, h'⟩ := tl2 p
    exact .inl ⟨i, j, by rw [h.int, h'.int], k _ N c H Ex.refl W (.int _)⟩
  · split at q
    · rename_i ns hn
      split at q
      · rename_i m hm
        cases q
        obtain ⟨u, rfl, h⟩ := tl1 p
        obtain ⟨a, rfl, ha⟩ := h.ints W hn
        obtain ⟨h1, h2⟩ := minL_ok hm
        refine .inr ⟨a, ns, rfl, ha, List.length_pos_of_mem h1, fun m' h3 h4 => ?_⟩
        have e : m' = m := by
          have := h2 m' h3
          have := h4 m h1
          omega
        rw [e]
        exact k _ N c H Ex.refl W (.int _)
      · cases q
    · cases q
  · cases q
/-- list(x), tuple(x) -/
def gList : List D → Sto → Option (List D) := fun ds st => match ds with
  | [.tup xs] => some xs
  | [x] => lstR st x
  | _ => none
def gTuple : List D → Sto → Option D := fun ds st => match ds with
  | [.tup xs] => some (.tup xs)
  | [x] => match lstR st x with
    | some xs => some (.tup xs)
    | none => none
  | _ => none
theorem ok_list {mg : Glob} : BiOk mg (RN mg) (fun xs H Q => ∃ p ys, xs = [.ref p] ∧ (SqL mg.K H p ys ∨ SqT mg.K H p ys) ∧ ∀ l, H l = none → Q (.ref l) (upd H l (.lst ys))) gList := by
  intro N c H st us ds d Q W p q k
  unfold gList at q
  split at q
  · cases q
    obtain ⟨u, rfl, h⟩ := tl1 p
    obtain ⟨a, vs, rfl, ha, r⟩ := h.tup
    exact ⟨a, vs, rfl, .inr (SqT.of ha), fun l hl => k _ _ _ _ (Ex.laidN W hl) (W.laidN hl) (RN.laid W hl r)⟩
  · obtain ⟨u, rfl, h⟩ := tl1 p
    obtain ⟨a, vs, rfl, ha, r⟩ := RepT.read W h q
    exact ⟨a, vs, rfl, .inl ha, fun l hl => k _ _ _ _ (Ex.laidN W hl) (W.laidN hl) (RN.laid W hl r)⟩
  · cases q
theorem ok_tuple {mg : Glob} : BiOk mg (RE mg) (fun xs H Q => ∃ p ys, xs = [.ref p] ∧ ((SqL mg.K H p ys ∧ ∀ l, H l = none → Q (.ref l) (upd H l (.tup ys))) ∨ (SqT mg.K H p ys ∧ Q (.ref p) H))) gTuple := by
  intro N c H st us ds d Q W p q k
  unfold gTuple at q
  split at q
  · rename_i xs
    cases q
    obtain ⟨u, rfl, h⟩ := tl1 p
    have rep : Rep mg N c H u (.tup xs) := by
      rcases h with z | ⟨_, _, _, _, z, _⟩
      · exact z
      · cases z
    obtain ⟨a, vs, rfl, ha, r⟩ := h.tup
    exact ⟨a, vs, rfl, .inr ⟨SqT.of ha, k _ N c H Ex.refl W rep⟩⟩
  · split at q
    · rename_i xs hx
      cases q
      obtain ⟨u, rfl, h⟩ := tl1 p
      obtain ⟨a, vs, rfl, ha, r⟩ := RepT.read W h hx
      exact ⟨a, vs, rfl, .inl ⟨ha, fun l hl => k _ _ _ _ (Ex.laid W hl) (W.laid hl) (Rep.laidT W hl r)⟩⟩
    · cases q
  · cases q
section
variable {mg : Glob} {X : Cx} {e : Expr} {es : List Expr} {p pos : Pos} {f : SA}
theorem d_len (hm : X.mg "len" = none) (ha : PA X (e :: es) (tAP mg f)) (hg : Gl X "len" := by rfl) (he : starEach (e :: es) X.env = (false, eval e X.env) :: starEach es X.env := by rfl) (hpl : (backTo pos (starEach es X.env)).any (·.1) = false := by rfl) (hK : X.K = mg.K := by rfl) : PE X (.Call (.Name "len" p) (e :: es) [] pos) (tE mg (eBi gLen f)) :=
  d_bi (hK ▸ CallR.or call_len_seq call_len_str) ok_len back_E hg hm PySem.boot_len ha (by decide) (by decide) he hpl
theorem d_sum (hc : X.calm = true) (hm : X.mg "sum" = none) (ha : PA X (e :: es) (tAP mg f)) (hg : Gl X "sum" := by rfl) (he : starEach (e :: es) X.env = (false, eval e X.env) :: starEach es X.env := by rfl) (hpl : (backTo pos (starEach es X.env)).any (·.1) = false := by rfl) (hK : X.K = mg.K := by rfl) : PE X (.Call (.Name "sum" p) (e :: es) [] pos) (tE mg (eBi gSum f)) :=
  d_bi (hK ▸ cr_sum hc) ok_sum back_E hg hm (by decide +kernel) ha (by decide) (by decide) he hpl
theorem d_max (hc : X.calm = true) (hm : X.mg "max" = none) (ha : PA X (e :: es) (tAP mg f)) (hg : Gl X "max" := by rfl) (he : starEach (e :: es) X.env = (false, eval e X.env) :: starEach es X.env := by rfl) (hpl : (backTo pos (starEach es X.env)).any (·.1) = false := by rfl) (hK : X.K = mg.K := by rfl) : PE X (.Call (.Name "max" p) (e :: es) [] pos) (tE mg (eBi gMax f)) :=
  d_bi (hK ▸ CallR.or (call_max2 hc) (cr_max hc)) ok_max back_E hg hm (by decide +kernel) ha (by decide) (by decide) he hpl
theorem d_min (hc : X.calm = true) (hm : X.mg "min" = none) (ha : PA X (e :: es) (tAP mg f)) (hg : Gl X "min" := by rfl) (he : starEach (e :: es) X.env = (false, eval e X.env) :: starEach es X.env := by rfl) (hpl : (backTo pos (starEach es X.env)).any (·.1) = false := by rfl) (hK : X.K = mg.K := by rfl) : PE X (.Call (.Name "min" p) (e :: es) [] pos) (tE mg (eBi gMin f)) :=
  d_bi (hK ▸ CallR.or (call_min2 hc) (cr_min hc)) ok_min back_E hg hm (by decide +kernel) ha (by decide) (by decide) he hpl
theorem d_list (hm : X.mg "list" = none) (ha : PA X (e :: es) (tAP mg f)) (hg : Gl X "list" := by rfl) (he : starEach (e :: es) X.env = (false, eval e X.env) :: starEach es X.env := by rfl) (hpl : (backTo pos (starEach es X.env)).any (·.1) = false := by rfl) (hK : X.K = mg.K := by rfl) : PE X (.Call (.Name "list" p) (e :: es) [] pos) (tL mg (eBi gList f)) :=
  d_bt (hK ▸ call_list_of) ok_list back_N hg hm (by decide +kernel) ha (by decide) (by decide) he hpl
theorem d_tuple (hm : X.mg "tuple" = none) (ha : PA X (e :: es) (tAP mg f)) (hg : Gl X "tuple" := by rfl) (he : starEach (e :: es) X.env = (false, eval e X.env) :: starEach es X.env := by rfl) (hpl : (backTo pos (starEach es X.env)).any (·.1) = false := by rfl) (hK : X.K = mg.K := by rfl) : PE X (.Call (.Name "tuple" p) (e :: es) [] pos) (tE mg (eBi gTuple f)) :=
  d_bt (hK ▸ call_tuple_of) ok_tuple back_E hg hm (by decide +kernel) ha (by decide) (by decide) he hpl
end
end LW

/-! LwF: repr, isinstance; defs by their promise. -/
namespace LW
open PySem L2 PyProof.Rows

/-! ### repr -/
def rRepr (K : PySem.W.Frag) : List V → Hp → VK → Prop := fun xs H Q => ∃ (x : V) (d : PyData), xs = [x] ∧ Dp K H x d ∧ SeqAt.shaped d = true ∧ d.showable = true ∧ d.shown.length ≤ sizeLine ∧ Q (.str d.shown) H
theorem call_repr {X : Cx} (hg : X.A.guards = some []) (hu : X.A.units + 80 < cLine) : CallR X (.builtin "repr") (rRepr X.K) := by
  intro pins s σ H xs us Q I r h
  obtain ⟨x, d, rfl, hd, hsh, hs, hz, q⟩ := h
  obtain ⟨u, rfl, ru⟩ := vals1 r
  obtain ⟨as, rd⟩ := Dp.reads I d x u hd ru
  have dep := SeqAt.depth_of_shaped hsh
  have nd : d.hasDict = true → sysModules ∉ as := PyData.noDict_hsm (PyData.hasDict_of_canLay d (SeqAt.canLay_of_shaped hsh))
  have fin : ∀ (h' : Heap) (t : Tok) (tk : Nat), (∀ b o, s.heap.get? b = some o → h'.get? b = some o) → EP X pins σ Q (.str d.shown t) { s with heap := h', toks := tk } := fun h' t tk hk => ⟨.str d.shown, H, I.kept hk, ⟨t, rfl⟩, q⟩
  cases hd with
  | non =>
    cases (show u = Value.none from ru)
    exact PySem.P.repr_of_none (by have := fin s.heap s.toks (s.toks + 1) (fun _ _ e => e); simpa [PyData.shown] using this)
  | bl b =>
    cases (show u = Value.bool b from ru)
    exact PySem.P.repr_of_bool (by have := fin s.heap s.toks (s.toks + 1) (fun _ _ e => e); simpa [PyData.shown] using this)
  | int i =>
    obtain ⟨t, rfl⟩ := (show ∃ t, u = Value.int i t from ru)
    exact PySem.P.repr_of_int (by simpa [PyData.showable] using hs) (by have := fin s.heap s.toks (s.toks + 1) (fun _ _ e => e); simpa [PyData.shown] using this)
  | str z =>
    obtain ⟨t, rfl⟩ := (show ∃ t, u = Value.str z t from ru)
    exact PySem.P.repr_of_str (by have := fin s.heap s.toks (s.toks + 1) (fun _ _ e => e); simpa [PyData.shown] using this) (by simpa [PyData.shown] using hz)
  | @lst a _ _ _ _ =>
    cases (show u = Value.ref a from ru)
    exact repr_of_reads' rd hs nd hg (by omega) (fun _ _ e => e) (fun h' t tk hk => fin h' t tk hk) hz
  | @tup a _ _ _ _ =>
    cases (show u = Value.ref a from ru)
    exact repr_of_reads' rd hs nd hg (by omega) (fun _ _ e => e) (fun h' t tk hk => fin h' t tk hk) hz
def gRepr : List D → Sto → Option D := fun ds st => match ds with
  | [x] => match toPy 60 st x with
    | some p => if p.showable = true ∧ p.shown.length ≤ 1000000 then some (.str p.shown) else none
    | none => none
  | _ => none
theorem ok_repr {mg : Glob} : BiOk mg (RE mg) (rRepr mg.K) gRepr := by
  intro N c H st us ds d Q W p q k
  unfold gRepr at q
  split at q
  · split at q
    · rename_i pd hp
      split at q
      · rename_i hs
        cases q
        obtain ⟨u, rfl, h⟩ := tl1 p
        exact ⟨u, pd, rfl, dp_T W h hp, toPy_shaped hp, hs.1, sz6 hs.2, k _ N c H Ex.refl W (.str _)⟩
      · cases q
    · cases q
  · cases q
theorem d_repr {mg : Glob} {X : Cx} {e : Expr} {p pos : Pos} {f : SA} (hgd : X.A.guards = some []) (hu : X.A.units + 80 < cLine) (hm : X.mg "repr" = none) (ha : PA X [e] (tAP mg f)) (hg : Gl X "repr" := by rfl)
    (he : starEach [e] X.env = (false, eval e X.env) :: starEach [] X.env := by rfl) (hpl : (backTo pos (starEach [] X.env)).any (·.1) = false := by rfl) (hK : X.K = mg.K := by rfl) : PE X (.Call (.Name "repr" p) [e] [] pos) (tE mg (eBi gRepr f)) :=
  d_bi (hK ▸ call_repr hgd hu) ok_repr back_E hg hm (by decide +kernel) ha (by decide) (by decide) he hpl

/-! ### isinstance -/
inductive Ty7 where
  | non | bl | int | str | lst | tup | dic
def Ty7.name : Ty7 → String
  | .non => "NoneType"
  | .bl => "bool"
  | .int => "int"
  | .str => "str"
  | .lst => "list"
  | .tup => "tuple"
  | .dic => "dict"
def ty7 : D → Option Ty7
  | .non => some .non
  | .bl _ => some .bl
  | .int _ => some .int
  | .str _ => some .str
  | .tup _ => some .tup
  | .lst _ => some .lst
  | .cell _ => some .lst
  | .dic _ _ => some .dic
  | .dit _ _ => some .dic
  | _ => none
/-- a built-in class that is asked for -/
def kind7 (b : String) : Option Ty7 := if b = "int" then some .int else if b = "str" then some .str else if b = "list" then some .lst else if b = "tuple" then some .tup else if b = "dict" then some .dic else if b = "bool" then some .bl else none
def isi7 : Ty7 → Ty7 → Bool
  | .int, .int => true
  | .bl, .int => true
  | .bl, .bl => true
  | .str, .str => true
  | .lst, .lst => true
  | .tup, .tup => true
  | .dic, .dic => true
  | _, _ => false
theorem isi7_ok (t k : Ty7) (hk : k ≠ .non) : kitB t.name k.name = some (isi7 t k) := by
  cases k <;> first | exact absurd rfl hk | (cases t <;> decide +kernel)
theorem kind7_name {b : String} {k : Ty7} (h : kind7 b = some k) : k.name = b ∧ k ≠ .non := by
  unfold kind7 at h
  split at h
  · rename_i e; cases h; exact ⟨e.symm, by simp⟩
  · split at h
    · rename_i e; cases h; exact ⟨e.symm, by simp⟩
    · split at h
      · rename_i e; cases h; exact ⟨e.symm, by simp⟩
      · split at h
        · rename_i e; cases h; exact ⟨e.symm, by simp⟩
        · split at h
          · rename_i e; cases h; exact ⟨e.symm, by simp⟩
          · split at h
            · rename_i e; cases h; exact ⟨e.symm, by simp⟩
            · cases h
theorem ty7_of {mg : Glob} {N : Prot} {c : List Addr} {H : Hp} {st : Sto} {u : V} {x : D} {t : Ty7} {K : PySem.W.Frag} (W : Wd mg N c H st) (h : RepT mg N c H u x) (e : ty7 x = some t) : TyX K H u (.type t.name) := by
  rcases h with h | ⟨a, vs, xs, rfl, rfl, ha, _, r⟩
  · cases h with
    | non => cases e; exact .base .non
    | bl b => cases e; exact .base (.bl b)
    | int i => cases e; exact .base (.int i)
    | str z => cases e; exact .base (.str z)
    | tup h _ _ => cases e; exact .base (.tup h)
    | lst h _ _ => cases e; exact .base (.lst h)
    | cell hc =>
      cases e
      rename_i k a
      have hk : k < st.length := by rw [← W.len]; exact (List.getElem?_eq_some_iff.mp hc).1
      obtain ⟨vs, ha, _⟩ := W.sto k a _ hc (List.getElem?_eq_getElem hk)
      exact .base (.lst ha)
    | dic h _ _ _ => cases e; exact .base (.dK h)
    | dfz h _ _ _ => cases e; exact .fDict h
    | dit h _ _ _ => cases e; exact .base (.dT h)
    | _ => cases e
  · cases e
    exact .base (.lst ha)
/-- an own class as isinstance sees it -/
structure CF (K : PySem.W.Frag) (C : Addr) : Prop where
  cl : Cls K C
  ha : PySem.W.findIn K (.ref C) "__class__" = some (some (.builtin "object.__class__"))
  hn : PySem.W.specialIn K (.builtin "object.__class__") "__get__" = some (some (.builtin "getset_descriptor.__get__"))
  htk : PySem.W.takesIn K (.builtin "object.__class__") = some true
  hm : PySem.W.mroIn K C (.type "object") = some true
/-- the own classes cs: none is a kind of another -/
structure Isi (mg : Glob) (cs : List Str) : Prop where
  cf : ∀ n C, n ∈ cs → mg.mg n = some (.ref C) → CF mg.K C
  oo : ∀ n m C C', n ∈ cs → m ∈ cs → mg.mg n = some (.ref C) → mg.mg m = some (.ref C') → PySem.W.kitOne mg.K (.ref C) (.ref C') = some (decide (n = m))
  bo : ∀ (t : Ty7) m C, m ∈ cs → mg.mg m = some (.ref C) → PySem.W.kitOne mg.K (.type t.name) (.ref C) = some false
  ob : ∀ n C (t : Ty7), n ∈ cs → mg.mg n = some (.ref C) → t ≠ .non → PySem.W.kitOne mg.K (.ref C) (.type t.name) = some false
def gIsi (cs : List Str) : List D → Sto → Option D := fun ds _ => match ds with
  | [x, .ty b] => match kind7 b with
    | some k => match ty7 x with
      | some t => some (.bl (isi7 t k))
      | none => match x with
        | .obj n _ _ => if n ∈ cs then some (.bl false) else none
        | _ => none
    | none => none
  | [x, .cls m] => if m ∈ cs then (match ty7 x with
      | some _ => some (.bl false)
      | none => match x with
        | .obj n _ _ => if n ∈ cs then some (.bl (decide (n = m))) else none
        | _ => none) else none
  | _ => none
theorem RepT.obj {mg : Glob} {N : Prot} {c : List Addr} {H : Hp} {u : V} {cn : Str} {ns : List Str} {ds : List D} (h : RepT mg N c H u (.obj cn ns ds)) : ∃ a C dx fs, u = .ref a ∧ mg.mg cn = some (.ref C) ∧ H a = some (.ins C dx fs) ∧ fs.map (·.1) = ns ∧ RepL mg N c H (fs.map (·.2)) ds := by
  rcases h with h | ⟨_, _, _, _, e, _⟩
  · cases h with
    | obj hc ha _ hn r => exact ⟨_, _, _, _, rfl, hc, ha, hn, r⟩
  · cases e
theorem RepT.cls {mg : Glob} {N : Prot} {c : List Addr} {H : Hp} {u : V} {cn : Str} (h : RepT mg N c H u (.cls cn)) : ∃ C, u = .ref C ∧ mg.mg cn = some (.ref C) := by
  rcases h with h | ⟨_, _, _, _, e, _⟩
  · cases h with
    | cls hc => exact ⟨_, rfl, hc⟩
  · cases e
theorem ok_isi {mg : Glob} {cs : List Str} (T : Isi mg cs) : BiOk mg (RE mg) (rIsi mg.K) (gIsi cs) := by
  intro N c H st us ds d Q W p q k
  unfold gIsi at q
  split at q
  · rename_i x b
    obtain ⟨u, u', rfl, h, h'⟩ := tl2 p
    have e' := h'.ty
    subst e'
    split at q
    · rename_i kd hkd
      obtain ⟨hname, hnon⟩ := kind7_name hkd
      split at q
      · rename_i t ht
        cases q
        exact ⟨u, .ty b, _, _, _, rfl, .ty b, ty7_of W h ht, by rw [← hname]; exact kit_ty (isi7_ok t kd hnon), k _ N c H Ex.refl W (.bl _)⟩
      · split at q
        · rename_i n ns vs
          split at q
          · rename_i hn
            cases q
            obtain ⟨a, C, dx, fs, rfl, hc, ha, _, _⟩ := h.obj
            have cf := T.cf _ C hn hc
            exact ⟨_, .ty b, _, _, _, rfl, .ty b, .base (.ins ha cf.cl cf.ha cf.hn cf.htk cf.hm), by rw [← hname]; exact T.ob _ C kd hn hc hnon, k _ N c H Ex.refl W (.bl _)⟩
          · cases q
        · cases q
    · cases q
  · rename_i x m
    obtain ⟨u, u', rfl, h, h'⟩ := tl2 p
    obtain ⟨C', rfl, hc'⟩ := h'.cls
    split at q
    · rename_i hm
      split at q
      · rename_i t ht
        cases q
        exact ⟨u, .ref C', _, _, _, rfl, .own C', ty7_of W h ht, T.bo t m C' hm hc', k _ N c H Ex.refl W (.bl _)⟩
      · split at q
        · rename_i n ns vs
          split at q
          · rename_i hn
            cases q
            obtain ⟨a, C, dx, fs, rfl, hc, ha, _, _⟩ := h.obj
            have cf := T.cf _ C hn hc
            exact ⟨_, .ref C', _, _, _, rfl, .own C', .base (.ins ha cf.cl cf.ha cf.hn cf.htk cf.hm), T.oo _ m C C' hn hm hc hc', k _ N c H Ex.refl W (.bl _)⟩
          · cases q
        · cases q
    · cases q
  · cases q
section
variable {mg : Glob} {X : Cx} {e : Expr} {es : List Expr} {p pos : Pos} {f : SA} {cs : List Str}
theorem d_isi (T : Isi mg cs) (hm : X.mg "isinstance" = none) (ha : PA X (e :: es) (tAP mg f)) (hg : Gl X "isinstance" := by rfl) (he : starEach (e :: es) X.env = (false, eval e X.env) :: starEach es X.env := by rfl) (hpl : (backTo pos (starEach es X.env)).any (·.1) = false := by rfl) (hK : X.K = mg.K := by rfl) : PE X (.Call (.Name "isinstance" p) (e :: es) [] pos) (tE mg (eBi (gIsi cs) f)) :=
  d_bi (hK ▸ call_isi) (ok_isi T) back_E hg hm (by decide +kernel) ha (by decide) (by decide) he hpl
/-- a class of the program as a value -/
theorem d_cls {x : Str} {C : Addr} (hg : Gl X x) (hm : X.mg x = some (.ref C)) (hd : (x == ("__debug__" : Str)) = false := by decide) (hM : X.mg = mg.mg := by rfl) : PE X (.Name x pos) (tE mg (eC (.cls x))) :=
  d_glob hg hm (v := .ref C) rfl (fun _ _ _ => .cls (hM ▸ hm)) hd
end
end LW

/-! LwG: calls of defs, methods, classes, properties, fields. -/
namespace LW
open PySem L2 PyProof.Rows

/-- what a def reckons: by data and the cells -/
abbrev FM := List D → Sto → Option (D × Sto)
/-- the promise: the def hands back what g reckons, and changes nothing but cells -/
def spM (mg : Glob) (g : FM) (n : Nat) : Sp := fun vs H Q _ => vs.length = n ∧ ∃ (N : Prot) (c : List Addr) (ds : List D) (st : Sto) (d : D) (st' : Sto), Wd mg N c H st ∧ RepL mg N c H vs ds ∧ g ds st = some (d, st') ∧
  ∀ v N' c' H', Ex N c H N' c' H' → Wd mg N' c' H' st' → Rep mg N' c' H' v d → Q v H'
/-- only so many arguments -/
def Ar (n : Nat) (g : FM) : Prop := ∀ ds st r, g ds st = some r → ds.length = n
def eCall (g : FM) (dd : List D) (f : SA) : SE := fun env st => match f env st with
  | none => none
  | some (ds, s1) => g (ds ++ dd) s1
/-- defaults as data -/
def Dfl (mg : Glob) (dvs : List V) (dd : List D) : Prop := ∀ N c H, RepL mg N c H dvs dd
theorem dfl_nil {mg : Glob} : Dfl mg [] [] := fun _ _ _ => .nil
section
variable {mg : Glob} {X : Cx} {k : Nat} {f C : Addr} {fd : FuncData} {ps : List Str} {g : FM} {n : Nat} {dvs : List V} {ds : List Value} {dd : List D} {x m : Str} {p pos apos : Pos} {e o : Expr} {es : List Expr} {fs : SA} {fo : SE}
theorem r_call (ha : Ar n g) (hd : Dfl mg dvs dd) {t : TA} (ht : t = tA mg fs) {E : XK} {σ : L2.St} {H : Hp} {Q : VK} (h : tE mg (eCall g dd fs) σ H Q) : tCall (spM mg g n) dvs E t σ H Q := by
  subst ht
  obtain ⟨E0, N, c, env, st, d, st', R, q, kk⟩ := h
  unfold eCall at q
  split at q
  · cases q
  · rename_i ds s1 q1
    refine ⟨E0, N, c, env, st, ds, s1, R, q1, fun vs N1 c1 H1 x1 W1 r1 => ?_⟩
    have r2 := r1.append (hd N1 c1 H1)
    refine ⟨by rw [r2.length]; exact ha _ _ _ q, N1, c1, ds ++ dd, s1, d, st', W1, r2, q, fun v N2 c2 H2 x2 W2 r3 => ?_⟩
    exact kk v N2 c2 H2 (x1.trans x2 R.wd) W2 r3
theorem r_call0 (ha : Ar n g) (hd : Dfl mg dvs dd) {E : XK} {σ : L2.St} {H : Hp} {Q : VK} (h : tE mg (eCall g dd aNil) σ H Q) : tCall (spM mg g n) dvs E tNil σ H Q := by
  obtain ⟨E0, N, c, env, st, d, st', R, q, kk⟩ := h
  refine ⟨?_, N, c, dd, st, d, st', R.wd, hd N c H, q, kk⟩
  show (dvs : List V).length = n
  rw [(hd N c H).length]
  exact ha _ _ _ q
/-- f(e, ..) -/
theorem d_call (F : FnOk X.prog X.w X.K X.mg X.base CX0 k f fd ps (spM mg g n)) (har : Ar n g) (hr : Room k X.A) (hm : X.mg x = some (.ref f)) (hk : PySem.W.keepIn X.K (.ref f) = true) (hb : Binds X.K fd ps ds) (hd : Vals dvs ds) (hdd : Dfl mg dvs dd) (ha : PA X (e :: es) (tA mg fs))
    (hg : Gl X x := by rfl) (hdb : (x == ("__debug__" : Str)) = false := by decide) (he : starEach (e :: es) X.env = (false, eval e X.env) :: starEach es X.env := by rfl) (hpl : (backTo pos (starEach es X.env)).any (·.1) = false := by rfl) :
    PE X (.Call (.Name x p) (e :: es) [] pos) (tE mg (eCall g dd fs)) :=
  pe_weak (pe_call (E := E0) F hr hg hm hk hb hd pass0 ha hdb he hpl) fun _ _ _ h => r_call har hdd rfl h
theorem d_call0 (F : FnOk X.prog X.w X.K X.mg X.base CX0 k f fd ps (spM mg g n)) (har : Ar n g) (hr : Room k X.A) (hm : X.mg x = some (.ref f)) (hk : PySem.W.keepIn X.K (.ref f) = true) (hb : Binds X.K fd ps ds) (hd : Vals dvs ds) (hdd : Dfl mg dvs dd)
    (hg : Gl X x := by rfl) (hdb : (x == ("__debug__" : Str)) = false := by decide) : PE X (.Call (.Name x p) [] [] pos) (tE mg (eCall g dd aNil)) :=
  pe_weak (pe_call0 (E := E0) F hr hg hm hk hb hd pass0 hdb) fun _ _ _ h => r_call0 har hdd h

/-! ### methods -/
def eMeth (cn m : Str) (g : FM) (dd : List D) (fo : SE) (f : SA) : SE := fun env st => match fo env st with
  | some (.obj cn' ns vs, s1) => if cn' = cn ∧ ¬ m ∈ ns then (match f env s1 with
      | none => none
      | some (ds, s2) => g (.obj cn' ns vs :: (ds ++ dd)) s2) else none
  | _ => none
theorem lookup_no {α : Type} {m : Str} : ∀ {l : List (Str × α)}, ¬ m ∈ l.map (·.1) → l.lookup m = none
  | [], _ => rfl
  | (a, b) :: r, h => by
    rw [List.map_cons, List.mem_cons, not_or] at h
    rw [List.lookup_cons]
    have : (m == a) = false := beq_eq_false_iff_ne.mpr h.1
    rw [this]
    exact lookup_no h.2
theorem r_meth {cn : Str} (hC : mg.mg cn = some (.ref C)) (har : Ar n g) (hd : Dfl mg dvs dd) {t : TA} (ht : ∀ σ H Q, tA mg fs σ H Q → t σ H Q) {E : XK} {σ : L2.St} {H : Hp} {Q : VK} (h : tE mg (eMeth cn m g dd fo fs) σ H Q) : tMeth C m (spM mg g n) dvs E (tE mg fo) t σ H Q := by
  obtain ⟨E0, N, c, env, st, d, st', R, q, kk⟩ := h
  unfold eMeth at q
  split at q
  · rename_i cn' ns vs s1 q1
    split at q
    · rename_i hcn
      obtain ⟨rfl, hm⟩ := hcn
      split at q
      · cases q
      · rename_i ds s2 q2
        refine ⟨E0, N, c, env, st, _, s1, R, q1, fun v N1 c1 H1 x1 W1 r1 => ?_⟩
        obtain ⟨a, C', dx, fs', rfl, hc, ha, hn, rr⟩ := RepT.obj (.inl r1)
        rw [hC] at hc
        cases hc
        refine ⟨a, dx, fs', rfl, ha, lookup_no (by rw [hn]; exact hm), ht _ _ _ ⟨E0, N1, c1, env, s1, ds, s2, R.ex x1 W1, q2, fun us N2 c2 H2 x2 W2 r2 => ?_⟩⟩
        have r3 := r2.append (hd N2 c2 H2)
        have r4 : RepL mg N2 c2 H2 (.ref a :: (us ++ dvs)) (.obj cn' ns vs :: (ds ++ dd)) := .cons (Rep.tr (x2.tr W1) r1) r3
        refine ⟨by rw [r4.length]; exact har _ _ _ q, N2, c2, _, s2, d, st', W2, r4, q, fun w N3 c3 H3 x3 W3 r5 => ?_⟩
        exact kk w N3 c3 H3 ((x1.trans x2 R.wd).trans x3 R.wd) W3 r5
    · cases q
  · cases q
theorem d_meth {cn : Str} (ho : PE X o (tE mg fo)) (hC : mg.mg cn = some (.ref C)) (c : Cls X.K C) (hm : Meth X.K C m f) (F : FnOk X.prog X.w X.K X.mg X.base CX0 k f fd ps (spM mg g n)) (har : Ar n g) (hr : Room k X.A) (hb : Binds X.K fd ps ds) (hd : Vals dvs ds) (hdd : Dfl mg dvs dd) (ha : PA X (e :: es) (tA mg fs))
    {pl : Sem Bool} (hst : starEach (e :: es) X.env = (false, eval e X.env) :: starEach es X.env := by rfl) (hpl : (backTo pos (starEach es X.env)).any (·.1) = false := by rfl)
    (ht : eval (.Call (.Attribute o m apos) (e :: es) [] pos) X.env = (do
      let ov ← eval o X.env
      standAt apos.atName
      let (f, first) ← holding [ov] (getMethod ov m pl)
      callWith pos f first (backTo pos (starEach (e :: es) X.env)) (backToKw pos (keywordEach [] X.env))) := by rfl) :
    PE X (.Call (.Attribute o m apos) (e :: es) [] pos) (tE mg (eMeth cn m g dd fo fs)) :=
  pe_weak (pe_meth (E := E0) ho c hm F hr hb hd pass0 ha hst hpl ht) fun _ _ _ h => r_meth hC har hdd (fun _ _ _ z => z) h
theorem d_meth0 {cn : Str} (ho : PE X o (tE mg fo)) (hC : mg.mg cn = some (.ref C)) (c : Cls X.K C) (hm : Meth X.K C m f) (F : FnOk X.prog X.w X.K X.mg X.base CX0 k f fd ps (spM mg g n)) (har : Ar n g) (hr : Room k X.A) (hb : Binds X.K fd ps ds) (hd : Vals dvs ds) (hdd : Dfl mg dvs dd)
    {pl : Sem Bool} (ht : eval (.Call (.Attribute o m apos) [] [] pos) X.env = (do
      let ov ← eval o X.env
      standAt apos.atName
      let (f, first) ← holding [ov] (getMethod ov m pl)
      callWith pos f first (backTo pos (starEach [] X.env)) (backToKw pos (keywordEach [] X.env))) := by rfl) :
    PE X (.Call (.Attribute o m apos) [] [] pos) (tE mg (eMeth cn m g dd fo aNil)) :=
  pe_weak (pe_meth0 (E := E0) ho c hm F hr hb hd pass0 ht) fun _ _ _ h => r_meth hC har hdd (fun σ H Q ⟨E, N, c, env, st, d, st', R, q, k⟩ => by
    cases q
    exact k [] N c H Ex.refl R.wd .nil) h

/-! ### properties, fields -/
def eProp (cn : Str) (g : FM) (fo : SE) : SE := fun env st => match fo env st with
  | some (.obj cn' ns vs, s1) => if cn' = cn then g [.obj cn' ns vs] s1 else none
  | _ => none
theorem d_prop {cn : Str} {pa : Addr} (ho : PE X o (tE mg fo)) (hC : mg.mg cn = some (.ref C)) (c : Cls X.K C) (hp : PropOf X.K C m pa f) (F : FnOk X.prog X.w X.K X.mg X.base CX0 k f fd ps (spM mg g n)) (har : Ar n g) (hr : Room (k + 1) X.A) (hb : Binds X.K fd ps [])
    (hab : attributeBase o m X.env (eval o X.env) = eval o X.env := by rfl) : PE X (.Attribute o m pos) (tE mg (eProp cn g fo)) :=
  pe_weak (pe_prop (E := E0) (dvs := []) (ds := []) ho c hp F hr hb .nil (fun _ _ _ _ _ _ _ h => h.elim) hab) fun σ H Q h => by
    obtain ⟨E0, N, c, env, st, d, st', R, q, kk⟩ := h
    unfold eProp at q
    split at q
    · rename_i cn' ns vs s1 q1
      split at q
      · rename_i hcn
        subst hcn
        refine ⟨E0, N, c, env, st, _, s1, R, q1, fun v N1 c1 H1 x1 W1 r1 => ?_⟩
        obtain ⟨a, C', dx, fs', rfl, hc, ha, hn, rr⟩ := RepT.obj (.inl r1)
        rw [hC] at hc
        cases hc
        have r4 : RepL mg N1 c1 H1 [.ref a] [.obj cn' ns vs] := .cons r1 .nil
        refine ⟨a, dx, fs', rfl, ha, by show ([V.ref a] : List V).length = n; rw [r4.length]; exact har _ _ _ q, N1, c1, _, s1, d, st', W1, r4, q, fun w N3 c3 H3 x3 W3 r5 => ?_⟩
        exact kk w N3 c3 H3 (x1.trans x3 R.wd) W3 r5
      · cases q
    · cases q
def fldD (m : Str) : List Str → List D → Option D
  | n :: ns, v :: vs => if m = n then some v else fldD m ns vs
  | _, _ => none
theorem fldD_ok {N : Prot} {c : List Addr} {H : Hp} {m : Str} : ∀ {fs : List (Str × V)} {ds : List D} {d : D}, RepL mg N c H (fs.map (·.2)) ds → fldD m (fs.map (·.1)) ds = some d → ∃ v, fs.lookup m = some v ∧ Rep mg N c H v d
  | [], _, _, _, e => by cases e
  | (a, b) :: r, [], _, h, _ => by cases h
  | (a, b) :: r, d0 :: ds, d, h, e => by
    cases h with
    | cons h t =>
      show ∃ v, List.lookup m ((a, b) :: r) = some v ∧ _
      rw [List.lookup_cons]
      by_cases q : m = a
      · subst q
        have e' : (if m = m then some d0 else fldD m (r.map (·.1)) ds) = some d := e
        rw [if_pos rfl] at e'
        cases e'
        exact ⟨b, by simp, h⟩
      · have e' : (if m = a then some d0 else fldD m (r.map (·.1)) ds) = some d := e
        rw [if_neg q] at e'
        rw [show (m == a) = false from beq_eq_false_iff_ne.mpr q]
        exact fldD_ok t e'
def eFld (cn m : Str) (fo : SE) : SE := fun env st => match fo env st with
  | some (.obj cn' ns vs, s1) => if cn' = cn then (match fldD m ns vs with
      | some d => some (d, s1)
      | none => none) else none
  | _ => none
theorem d_fld {cn : Str} (ho : PE X o (tP mg fo)) (hC : mg.mg cn = some (.ref C)) (c : Cls X.K C) (hn : NoAttr X.K C m) (hab : attributeBase o m X.env (eval o X.env) = eval o X.env := by rfl) : PE X (.Attribute o m pos) (tE mg (eFld cn m fo)) :=
  pe_weak (pe_fld ho hab) fun σ H Q h => by
    obtain ⟨E0, N, c0, env, st, d, st', R, q, kk⟩ := h
    unfold eFld at q
    split at q
    · rename_i cn' ns vs s1 q1
      split at q
      · rename_i hcn
        subst hcn
        split at q
        · rename_i d0 hf
          cases q
          refine ⟨E0, N, c0, env, st, _, _, R, q1, fun v N1 c1 H1 x1 W1 r1 => ?_⟩
          obtain ⟨a, C', dx, fs', rfl, hc, ha, hnn, rr⟩ := RepT.obj r1
          rw [hC] at hc
          cases hc
          subst hnn
          obtain ⟨v, hv, rv⟩ := fldD_ok rr hf
          exact ⟨a, C, dx, fs', v, rfl, ha, c, hn, hv, kk v N1 c1 H1 x1 W1 rv⟩
        · cases q
      · cases q
    · cases q
end

/-! ### a new instance -/
/-- what an __init__ reckons: the fields -/
abbrev FI := List D → Sto → Option ((List Str × List D) × Sto)
def ArI (n : Nat) (g : FI) : Prop := ∀ ds st r, g ds st = some r → ds.length = n
def spI (mg : Glob) (cn : Str) (g : FI) (n : Nat) : Sp := fun vs H Q _ => vs.length = n + 1 ∧ ∃ (N : Prot) (c : List Addr) (x dx C : Addr) (us : List V) (ds : List D) (st : Sto) (ns : List Str) (fds : List D) (st' : Sto),
  vs = .ref x :: us ∧ mg.mg cn = some (.ref C) ∧ H x = some (.ins C dx []) ∧ N x ∧ x ∉ c ∧ Wd mg N c H st ∧ RepL mg N c H us ds ∧ g ds st = some ((ns, fds), st') ∧
  ∀ N' c' H' dx' fs, (∀ a o, H a = some o → a ∉ c → a ≠ x → H' a = some o) → (∀ a, N' a → N a ∨ H a = none) → (∀ a, N a → N' a) → (∀ (k : Nat) a, c[k]? = some a → c'[k]? = some a) → (∀ a, a ∈ c' → a ∈ c ∨ H a = none) →
    Wd mg N' c' H' st' → H' x = some (.ins C dx' fs) → fs.map (·.1) = ns → RepL mg N' c' H' (fs.map (·.2)) fds → Q .non H'
def eMake (cn : Str) (g : FI) (dd : List D) (f : SA) : SE := fun env st => match f env st with
  | none => none
  | some (ds, s1) => match g (ds ++ dd) s1 with
    | none => none
    | some ((ns, fds), s2) => some (.obj cn ns fds, s2)
section
variable {mg : Glob} {X : Cx} {k : Nat} {f C : Addr} {fd : FuncData} {ps : List Str} {g : FI} {n : Nat} {dvs : List V} {ds : List Value} {dd : List D} {x m : Str} {p pos apos : Pos} {e o : Expr} {es : List Expr} {fs : SA} {fo : SE}
theorem r_make {cn : Str} (hC : mg.mg cn = some (.ref C)) (har : ArI n g) (hd : Dfl mg dvs dd) {E : XK} {σ : L2.St} {H : Hp} {Q : VK} (h : tE mg (eMake cn g dd fs) σ H Q) : tMake C (spI mg cn g n) dvs E (tA mg fs) σ H Q := by
  obtain ⟨E0, N, c, env, st, d, st', R, q, kk⟩ := h
  unfold eMake at q
  split at q
  · cases q
  · rename_i ds s1 q1
    split at q
    · cases q
    · rename_i ns fds s2 q2
      cases q
      refine ⟨E0, N, c, env, st, ds, s1, R, q1, fun vs N1 c1 H1 x1 W1 r1 => fun z dz hz hdz hne => ?_⟩
      have r2 := r1.append (hd N1 c1 H1)
      -- the own dict is laid, then the instance, protected
      have xa := Ex.laid (o := .own z) W1 hdz
      have Wa := W1.laid (o := .own z) hdz
      have hz' : (upd H1 dz (.own z)) z = none := by rw [upd_ne (Ne.symm hne)]; exact hz
      have xb := Ex.laidN (o := .ins C dz []) Wa hz'
      have Wb := Wa.laidN (o := .ins C dz []) hz'
      have xab := xa.trans xb W1
      have r3 := r2.tr (xab.tr W1)
      refine ⟨by show (vs ++ dvs).length + 1 = n + 1; rw [r2.length, har _ _ _ q2], _, c1, z, dz, C, vs ++ dvs, ds ++ dd, s1, ns, fds, _, rfl, hC, upd_same, .inr rfl, Wa.cnone hz', Wb, r3, q2, ?_⟩
      intro N' c' H' dx' fs' h1 h2 h3 h4 h5 W' h6 h7 r4
      refine ⟨rfl, ?_⟩
      have nz : z ∉ c' := fun q => (h5 z q).elim (Wa.cnone hz') fun e => by rw [upd_same] at e; cases e
      have less : ∀ a, (N' a ∧ a ≠ z) → N' a := fun a q => q.1
      have free1 : ∀ a, (upd (upd H1 dz (.own z)) z (.ins C dz [])) a = none → H1 a = none := fun a e => by
        by_cases q1 : a = z
        · rw [q1]; exact hz
        · rw [upd_ne q1] at e
          by_cases q2 : a = dz
          · rw [q2]; exact hdz
          · rw [upd_ne q2] at e; exact e
      have xx : Ex N1 c1 H1 (fun a => N' a ∧ a ≠ z) c' H' := by
        refine ⟨fun a o e nc => ?_, fun a q => ?_, fun a q => ?_, h4, fun a q => ?_⟩
        · have n1 : a ≠ z := ne_of_none e hz
          have n2 : a ≠ dz := ne_of_none e hdz
          exact h1 a o (by rw [upd_ne n1, upd_ne n2]; exact e) nc n1
        · rcases h2 a q.1 with (z1 | z1) | z1
          · exact .inl z1
          · exact absurd z1 q.2
          · exact .inr (free1 a z1)
        · exact ⟨h3 a (.inl q), fun e => W1.trk a q (by rw [e]; exact hz)⟩
        · exact (h5 a q).elim .inl fun e => .inr (free1 a e)
      have W2 : Wd mg (fun a => N' a ∧ a ≠ z) c' H' _ := W'.less less fun a q => ⟨W'.cn a q, fun e => nz (e ▸ q)⟩
      exact kk _ _ _ _ (x1.trans xx R.wd) W2 (.obj hC h6 (fun q => q.2 rfl) h7 (r4.tr (Tr.less less)))
theorem d_make (M : Mk X.K C f) (F : FnOk X.prog X.w X.K X.mg X.base CX0 k f fd ps (spI mg x g n)) (har : ArI n g) (hr : Room (k + 1) X.A) (hm : X.mg x = some (.ref C)) (hb : Binds X.K fd ps ds) (hd : Vals dvs ds) (hdd : Dfl mg dvs dd) (ha : PA X (e :: es) (tA mg fs))
    (hM : X.mg = mg.mg := by rfl) (hg : Gl X x := by rfl) (hdb : (x == ("__debug__" : Str)) = false := by decide) (he : starEach (e :: es) X.env = (false, eval e X.env) :: starEach es X.env := by rfl) (hpl : (backTo pos (starEach es X.env)).any (·.1) = false := by rfl) :
    PE X (.Call (.Name x p) (e :: es) [] pos) (tE mg (eMake x g dd fs)) :=
  pe_weak (pe_make (E := E0) M F hr hg hm hb hd pass0 ha hdb he hpl) fun _ _ _ h => r_make (hM ▸ hm) har hdd h
end
end LW

/-! LwH: statements. -/
namespace LW
open PySem L2 PyProof.Rows

inductive Out where
  | nx (e : Env) | rt (d : D) | bk (e : Env) | ct (e : Env)
abbrev SS := Env → Sto → Option (Out × Sto)
/-- a step of a statement: what is not protected stays -/
structure Sx (N : Prot) (c : List Addr) (H : Hp) (N' : Prot) (c' : List Addr) (H' : Hp) : Prop where
  keep : ∀ a o, H a = some o → ¬ N a → H' a = some o
  new : ∀ a, N' a → N a ∨ H a = none
  pre : ∀ (k : Nat) a, c[k]? = some a → c'[k]? = some a
  newc : ∀ a, a ∈ c' → a ∈ c ∨ H a = none
  trk : ∀ a, H' a = none → H a = none
/-- the end of a def: seen from its entry -/
structure Fin (mg : Glob) (E : En) (c' : List Addr) (st' : Sto) (H' : Hp) (v : V) (d : D) : Prop where
  wd : Wd mg (fun a => E.N0 a ∨ a ∈ c') c' H' st'
  rep : Rep mg (fun a => E.N0 a ∨ a ∈ c') c' H' v d
  base : ∀ a o, E.H0 a = some o → a ∉ c' → H' a = some o
  pre : ∀ (k : Nat) a, E.c0[k]? = some a → c'[k]? = some a
  newc : ∀ a, a ∈ c' → a ∈ E.c0 ∨ E.H0 a = none
def tS (mg : Glob) (f : SS) : TS := fun De σ H => ∃ (E : En) (N : Prot) (c : List Addr) (env : Env) (st : Sto) (o : Out) (st' : Sto), Rel mg E N c env st σ H ∧ f env st = some (o, st') ∧
  match o with
  | .nx env' => ∀ N' c' σ' H', Sx N c H N' c' H' → Rel mg E N' c' env' st' σ' H' → De.nx σ' H'
  | .bk env' => ∀ N' c' σ' H', Sx N c H N' c' H' → Rel mg E N' c' env' st' σ' H' → De.bk σ' H'
  | .ct env' => ∀ N' c' σ' H', Sx N c H N' c' H' → Rel mg E N' c' env' st' σ' H' → De.ct σ' H'
  | .rt d => ∀ c' H' v, Fin mg E c' st' H' v d → De.rt v H'
section
variable {mg : Glob} {N N' N'' : Prot} {c c' c'' : List Addr} {H H' H'' : Hp} {st st' : Sto} {E : En} {env : Env} {σ : L2.St}
theorem Sx.refl : Sx N c H N c H := ⟨fun _ _ h _ => h, fun _ h => .inl h, fun _ _ h => h, fun _ h => .inl h, fun _ h => h⟩
theorem Ex.sx (x : Ex N c H N' c' H') (W : Wd mg N c H st) (W' : Wd mg N' c' H' st') : Sx N c H N' c' H' := ⟨fun a o h n => x.keep a o h fun z => n (W.cn a z), x.new, x.pre, x.newc, fun a h => x.free W W' h⟩
theorem Sx.nn (x : Sx N c H N' c' H') {a : Addr} {o : HO} (h : H a = some o) (n : ¬ N a) : ¬ N' a := fun z => (x.new a z).elim n fun e => by rw [h] at e; cases e
theorem Sx.trans (x : Sx N c H N' c' H') (y : Sx N' c' H' N'' c'' H'') : Sx N c H N'' c'' H'' where
  keep := fun a o h n => y.keep a o (x.keep a o h n) (x.nn h n)
  new := fun a z => (y.new a z).elim (x.new a) fun e => .inr (x.trk a e)
  pre := fun k a h => y.pre k a (x.pre k a h)
  newc := fun a z => (y.newc a z).elim (x.newc a) fun e => .inr (x.trk a e)
  trk := fun a h => x.trk a (y.trk a h)
theorem Sx.tr (x : Sx N c H N' c' H') : Tr N c H N' c' H' := ⟨x.keep, x.new, x.pre⟩
/-- the end of a def, from data of the frame -/
theorem Rel.fin {v : V} {d : D} (R : Rel mg E N c env st σ H) (r : Rep mg N c H v d) : Fin mg E c st H v d := by
  have less : ∀ a, (E.N0 a ∨ a ∈ c) → N a := fun a z => z.elim (R.n0 a) (R.wd.cn a)
  exact ⟨R.wd.less less fun a z => .inr z, r.tr (Tr.less less), R.base, R.pre, R.newc⟩
end

/-! ### setting a slot -/
section
variable {mg : Glob} {N N' : Prot} {c c' : List Addr} {H H' : Hp} {st st' : Sto} {E : En} {env : Env} {σ : L2.St}
theorem get_set {α : Type} {l : List α} {i j : Nat} {x y : α} (h : (l.set i x)[j]? = some y) : (i = j ∧ y = x) ∨ (i ≠ j ∧ l[j]? = some y) := by
  by_cases e : i = j
  · subst e
    by_cases hl : i < l.length
    · rw [List.getElem?_set_self hl] at h
      cases h
      exact .inl ⟨rfl, rfl⟩
    · rw [List.getElem?_eq_none (by simpa using hl)] at h
      cases h
  · rw [List.getElem?_set_ne e] at h
    exact .inr ⟨e, h⟩
/-- a slot gets a new content that is not the frame's own -/
theorem Rel.set {i : Nat} {s : Sl} {v : V} (R : Rel mg E N c env st σ H) (hs : s.isOwn = false) (h : SlR mg N c H s (some v)) : Rel mg E N c (env.set i s) st (σ.set i (some v)) H where
  len := by rw [List.length_set, List.length_set]; exact R.len
  sl := fun j s' e => by
    rcases get_set e with ⟨rfl, rfl⟩ | ⟨ne, e⟩
    · have hl : i < σ.length := by
        rw [R.len]
        have := (List.getElem?_eq_some_iff.mp e).1
        simpa using this
      rw [List.getElem?_set_self hl]
      exact h
    · rw [List.getElem?_set_ne ne]
      exact R.sl j s' e
  own := fun j s' a e ho es => by
    rcases get_set e with ⟨rfl, rfl⟩ | ⟨ne, e⟩
    · rw [hs] at ho; cases ho
    · rw [List.getElem?_set_ne ne] at es
      exact R.own j s' a e ho es
  inj := fun j k s1 s2 a e1 o1 e2 o2 h1 h2 => by
    rcases get_set e1 with ⟨rfl, rfl⟩ | ⟨n1, e1⟩
    · rw [hs] at o1; cases o1
    · rcases get_set e2 with ⟨rfl, rfl⟩ | ⟨n2, e2⟩
      · rw [hs] at o2; cases o2
      · rw [List.getElem?_set_ne n1] at h1
        rw [List.getElem?_set_ne n2] at h2
        exact R.inj j k s1 s2 a e1 o1 e2 o2 h1 h2
  wd := R.wd
  n0 := R.n0
  t0 := R.t0
  base := R.base
  pre := R.pre
  newc := R.newc
  slf := fun j cn ns ds a e es => by
    rcases get_set e with ⟨rfl, rfl⟩ | ⟨ne, e⟩
    · cases hs
    · rw [List.getElem?_set_ne ne] at es
      exact R.slf j cn ns ds a e es
/-- a slot gets a list of the frame's own: a new one, protected -/
theorem Rel.setOwn {i : Nat} {p : Addr} {vs : List V} {xs : List D} (R : Rel mg E N c env st σ H) (hp : H p = some (.lst vs)) (np : N p) (nc : p ∉ c) (h0 : E.H0 p = none) (r : RepL mg N c H vs xs)
    (nw : ∀ (j : Nat) s, env[j]? = some s → s.isOwn = true → σ[j]? ≠ some (some (.ref p))) : Rel mg E N c (env.set i (.own xs)) st (σ.set i (some (.ref p))) H where
  len := by rw [List.length_set, List.length_set]; exact R.len
  sl := fun j s' e => by
    rcases get_set e with ⟨rfl, rfl⟩ | ⟨ne, e⟩
    · have hl : i < σ.length := by
        rw [R.len]
        have := (List.getElem?_eq_some_iff.mp e).1
        simpa using this
      rw [List.getElem?_set_self hl]
      exact ⟨p, vs, rfl, hp, r⟩
    · rw [List.getElem?_set_ne ne]
      exact R.sl j s' e
  own := fun j s' a e ho es => by
    rcases get_set e with ⟨rfl, rfl⟩ | ⟨ne, e⟩
    · have hl : i < σ.length := by
        rw [R.len]
        have := (List.getElem?_eq_some_iff.mp e).1
        simpa using this
      rw [List.getElem?_set_self hl] at es
      cases es
      exact ⟨np, nc, h0⟩
    · rw [List.getElem?_set_ne ne] at es
      exact R.own j s' a e ho es
  inj := fun j k s1 s2 a e1 o1 e2 o2 h1 h2 => by
    have hl : ∀ {s : Sl}, (env.set i (.own xs))[i]? = some s → i < σ.length := fun {s} e => by
      rw [R.len]
      have := (List.getElem?_eq_some_iff.mp e).1
      simpa using this
    rcases get_set e1 with ⟨rfl, rfl⟩ | ⟨n1, e1'⟩
    · rcases get_set e2 with ⟨rfl, rfl⟩ | ⟨n2, e2'⟩
      · rfl
      · rw [List.getElem?_set_self (hl e1)] at h1
        cases h1
        rw [List.getElem?_set_ne n2] at h2
        exact absurd h2 (nw k s2 e2' o2)
    · rcases get_set e2 with ⟨rfl, rfl⟩ | ⟨n2, e2'⟩
      · rw [List.getElem?_set_self (hl e2)] at h2
        cases h2
        rw [List.getElem?_set_ne n1] at h1
        exact absurd h1 (nw j s1 e1' o1)
      · rw [List.getElem?_set_ne n1] at h1
        rw [List.getElem?_set_ne n2] at h2
        exact R.inj j k s1 s2 a e1' o1 e2' o2 h1 h2
  wd := R.wd
  n0 := R.n0
  t0 := R.t0
  base := R.base
  pre := R.pre
  newc := R.newc
  slf := fun j cn ns ds a e es => by
    rcases get_set e with ⟨rfl, e2⟩ | ⟨ne, e⟩
    · cases e2
    · rw [List.getElem?_set_ne ne] at es
      exact R.slf j cn ns ds a e es
/-- a slot gets a dict of the frame's own: a new one, protected -/
theorem Rel.setOwnD {i : Nat} {p : Addr} {kvs : List (Key × V)} {ks : List Key} {xs : List D} (R : Rel mg E N c env st σ H) (hp : H p = some (.dK kvs)) (np : N p) (nc : p ∉ c) (h0 : E.H0 p = none) (hm : kvs.map (·.1) = ks) (r : RepL mg N c H (kvs.map (·.2)) xs)
    (nw : ∀ (j : Nat) s, env[j]? = some s → s.isOwn = true → σ[j]? ≠ some (some (.ref p))) : Rel mg E N c (env.set i (.ownD ks xs)) st (σ.set i (some (.ref p))) H where
  len := by rw [List.length_set, List.length_set]; exact R.len
  sl := fun j s' e => by
    rcases get_set e with ⟨rfl, rfl⟩ | ⟨ne, e⟩
    · have hl : i < σ.length := by
        rw [R.len]
        have := (List.getElem?_eq_some_iff.mp e).1
        simpa using this
      rw [List.getElem?_set_self hl]
      exact ⟨p, kvs, rfl, hp, hm, r⟩
    · rw [List.getElem?_set_ne ne]
      exact R.sl j s' e
  own := fun j s' a e ho es => by
    rcases get_set e with ⟨rfl, rfl⟩ | ⟨ne, e⟩
    · have hl : i < σ.length := by
        rw [R.len]
        have := (List.getElem?_eq_some_iff.mp e).1
        simpa using this
      rw [List.getElem?_set_self hl] at es
      cases es
      exact ⟨np, nc, h0⟩
    · rw [List.getElem?_set_ne ne] at es
      exact R.own j s' a e ho es
  inj := fun j k s1 s2 a e1 o1 e2 o2 h1 h2 => by
    have hl : ∀ {s : Sl}, (env.set i (.ownD ks xs))[i]? = some s → i < σ.length := fun {s} e => by
      rw [R.len]
      have := (List.getElem?_eq_some_iff.mp e).1
      simpa using this
    rcases get_set e1 with ⟨rfl, rfl⟩ | ⟨n1, e1'⟩
    · rcases get_set e2 with ⟨rfl, rfl⟩ | ⟨n2, e2'⟩
      · rfl
      · rw [List.getElem?_set_self (hl e1)] at h1
        cases h1
        rw [List.getElem?_set_ne n2] at h2
        exact absurd h2 (nw k s2 e2' o2)
    · rcases get_set e2 with ⟨rfl, rfl⟩ | ⟨n2, e2'⟩
      · rw [List.getElem?_set_self (hl e2)] at h2
        cases h2
        rw [List.getElem?_set_ne n1] at h1
        exact absurd h1 (nw j s1 e1' o1)
      · rw [List.getElem?_set_ne n1] at h1
        rw [List.getElem?_set_ne n2] at h2
        exact R.inj j k s1 s2 a e1' o1 e2' o2 h1 h2
  wd := R.wd
  n0 := R.n0
  t0 := R.t0
  base := R.base
  pre := R.pre
  newc := R.newc
  slf := fun j cn ns ds a e es => by
    rcases get_set e with ⟨rfl, e2⟩ | ⟨ne, e⟩
    · cases e2
    · rw [List.getElem?_set_ne ne] at es
      exact R.slf j cn ns ds a e es
/-- an address that was new ahead of a step is new at the entry, and no slot's own -/
theorem Rel.fresh0 (R : Rel mg E N c env st σ H) {p : Addr} (h : H p = none) : E.H0 p = none := by
  cases q : E.H0 p with
  | none => rfl
  | some o =>
    have : p ∉ c := R.wd.cnone h
    rw [R.base p o q this] at h; cases h
theorem Rel.notOwn (R : Rel mg E N c env st σ H) {p : Addr} (h : H p = none) : ∀ (j : Nat) s, env[j]? = some s → s.isOwn = true → σ[j]? ≠ some (some (.ref p)) := fun j s e ho z => by
  obtain ⟨n, _⟩ := R.own j s p e ho z
  exact R.wd.trk p n h
/-- a list of the frame's own changes -/
theorem Rel.write {i : Nat} {a : Addr} {vs vs' : List V} {xs xs' : List D} (R : Rel mg E N c env st σ H) (he : env[i]? = some (.own xs)) (hs : σ[i]? = some (some (.ref a))) (r : RepL mg N c H vs' xs') :
    Rel mg E N c (env.set i (.own xs')) st σ (upd H a (.lst vs')) ∧ Sx N c H N c (upd H a (.lst vs')) := by
  obtain ⟨na, nc, n0⟩ := R.own i _ a he rfl hs
  obtain ⟨b, us, eb, hb, rb⟩ := R.sl i _ he
  rw [hs] at eb
  cases eb
  have keep : ∀ b o, H b = some o → ¬ N b → (upd H a (.lst vs')) b = some o := fun b o e n => by
    rw [upd_ne (show b ≠ a from fun z => n (z ▸ na))]; exact e
  have tk : ∀ b, (upd H a (.lst vs')) b = none → H b = none := fun b e => by
    by_cases q : b = a
    · rw [q, upd_same] at e; cases e
    · rw [upd_ne q] at e; exact e
  have sx : Sx N c H N c (upd H a (.lst vs')) := ⟨keep, fun _ z => .inl z, fun _ _ z => z, fun _ z => .inl z, tk⟩
  have il : i < σ.length := (List.getElem?_eq_some_iff.mp hs).1
  have ne_of_own : ∀ (j : Nat) s b, i ≠ j → env[j]? = some s → s.isOwn = true → σ[j]? = some (some (.ref b)) → b ≠ a := fun j s b ne e ho z q => by
    subst q
    exact ne (R.inj i j _ s b he rfl e ho hs z)
  refine ⟨⟨by rw [List.length_set]; exact R.len, fun j s' e => ?_, fun j s' b e ho es => ?_, fun j k s1 s2 b e1 o1 e2 o2 h1 h2 => ?_, ?_, R.n0, R.t0, fun b o e n => ?_, R.pre, R.newc, fun j cn ns ds b e es => (get_set e).elim (fun z => nomatch z.2) fun z => R.slf j cn ns ds b z.2 es⟩, sx⟩
  · rcases get_set e with ⟨rfl, rfl⟩ | ⟨ne, e⟩
    · rw [hs]
      exact ⟨a, vs', rfl, upd_same, r.tr sx.tr⟩
    · have q := R.sl j s' e
      cases s' with
      | un => trivial
      | val d => obtain ⟨v, ev, rv⟩ := q; exact ⟨v, ev, rv.tr sx.tr⟩
      | own ys => obtain ⟨b, us', ev, hb', rv⟩ := q; exact ⟨b, us', ev, by rw [upd_ne (ne_of_own j _ b ne e rfl (join_some ev))]; exact hb', rv.tr sx.tr⟩
      | ownI cn ns ds => obtain ⟨b, C, dx, fs, ev, hc, hb', hn, rv⟩ := q; exact ⟨b, C, dx, fs, ev, hc, by rw [upd_ne (ne_of_own j _ b ne e rfl (join_some ev))]; exact hb', hn, rv.tr sx.tr⟩
      | ownD ks ds => obtain ⟨b, kvs, ev, hb', hn, rv⟩ := q; exact ⟨b, kvs, ev, by rw [upd_ne (ne_of_own j _ b ne e rfl (join_some ev))]; exact hb', hn, rv.tr sx.tr⟩
  · rcases get_set e with ⟨rfl, rfl⟩ | ⟨ne, e⟩
    · rw [hs] at es; cases es; exact ⟨na, nc, n0⟩
    · exact R.own j s' b e ho es
  · rcases get_set e1 with ⟨rfl, rfl⟩ | ⟨n1, e1⟩
    · rcases get_set e2 with ⟨rfl, rfl⟩ | ⟨n2, e2⟩
      · rfl
      · exact R.inj _ k _ s2 b he rfl e2 o2 h1 h2
    · rcases get_set e2 with ⟨rfl, rfl⟩ | ⟨n2, e2⟩
      · exact R.inj j _ s1 _ b e1 o1 he rfl h1 h2
      · exact R.inj j k s1 s2 b e1 o1 e2 o2 h1 h2
  · exact ⟨R.wd.len, fun k b ys h1 h2 => by
      obtain ⟨us', hb', rr⟩ := R.wd.sto k b ys h1 h2
      exact ⟨us', by rw [upd_ne (show b ≠ a from fun z => nc (z ▸ List.mem_of_getElem? h1))]; exact hb', rr.tr sx.tr⟩, R.wd.cn, R.wd.nd, fun b z e => R.wd.trk b z (tk b e)⟩
  · have : b ≠ a := fun z => by rw [z, n0] at e; cases e
    rw [upd_ne this]
    exact R.base b o e n
/-- a dict of the frame's own changes -/
theorem Rel.writeD {i : Nat} {a : Addr} {kvs' : List (Key × V)} {ks ks' : List Key} {xs xs' : List D} (R : Rel mg E N c env st σ H) (he : env[i]? = some (.ownD ks xs)) (hs : σ[i]? = some (some (.ref a))) (hm : kvs'.map (·.1) = ks') (r : RepL mg N c H (kvs'.map (·.2)) xs') :
    Rel mg E N c (env.set i (.ownD ks' xs')) st σ (upd H a (.dK kvs')) ∧ Sx N c H N c (upd H a (.dK kvs')) := by
  obtain ⟨na, nc, n0⟩ := R.own i _ a he rfl hs
  obtain ⟨b, us, eb, hb, hmb, rb⟩ := R.sl i _ he
  rw [hs] at eb
  cases eb
  have keep : ∀ b o, H b = some o → ¬ N b → (upd H a (.dK kvs')) b = some o := fun b o e n => by
    rw [upd_ne (show b ≠ a from fun z => n (z ▸ na))]; exact e
  have tk : ∀ b, (upd H a (.dK kvs')) b = none → H b = none := fun b e => by
    by_cases q : b = a
    · rw [q, upd_same] at e; cases e
    · rw [upd_ne q] at e; exact e
  have sx : Sx N c H N c (upd H a (.dK kvs')) := ⟨keep, fun _ z => .inl z, fun _ _ z => z, fun _ z => .inl z, tk⟩
  have il : i < σ.length := (List.getElem?_eq_some_iff.mp hs).1
  have ne_of_own : ∀ (j : Nat) s b, i ≠ j → env[j]? = some s → s.isOwn = true → σ[j]? = some (some (.ref b)) → b ≠ a := fun j s b ne e ho z q => by
    subst q
    exact ne (R.inj i j _ s b he rfl e ho hs z)
  refine ⟨⟨by rw [List.length_set]; exact R.len, fun j s' e => ?_, fun j s' b e ho es => ?_, fun j k s1 s2 b e1 o1 e2 o2 h1 h2 => ?_, ?_, R.n0, R.t0, fun b o e n => ?_, R.pre, R.newc, fun j cn ns ds b e es => (get_set e).elim (fun z => nomatch z.2) fun z => R.slf j cn ns ds b z.2 es⟩, sx⟩
  · rcases get_set e with ⟨rfl, rfl⟩ | ⟨ne, e⟩
    · rw [hs]
      exact ⟨a, kvs', rfl, upd_same, hm, r.tr sx.tr⟩
    · have q := R.sl j s' e
      cases s' with
      | un => trivial
      | val d => obtain ⟨v, ev, rv⟩ := q; exact ⟨v, ev, rv.tr sx.tr⟩
      | own ys => obtain ⟨b, us', ev, hb', rv⟩ := q; exact ⟨b, us', ev, by rw [upd_ne (ne_of_own j _ b ne e rfl (join_some ev))]; exact hb', rv.tr sx.tr⟩
      | ownI cn ns ds => obtain ⟨b, C, dx, fs, ev, hc, hb', hn, rv⟩ := q; exact ⟨b, C, dx, fs, ev, hc, by rw [upd_ne (ne_of_own j _ b ne e rfl (join_some ev))]; exact hb', hn, rv.tr sx.tr⟩
      | ownD ks ds => obtain ⟨b, kvs, ev, hb', hn, rv⟩ := q; exact ⟨b, kvs, ev, by rw [upd_ne (ne_of_own j _ b ne e rfl (join_some ev))]; exact hb', hn, rv.tr sx.tr⟩
  · rcases get_set e with ⟨rfl, rfl⟩ | ⟨ne, e⟩
    · rw [hs] at es; cases es; exact ⟨na, nc, n0⟩
    · exact R.own j s' b e ho es
  · rcases get_set e1 with ⟨rfl, rfl⟩ | ⟨n1, e1⟩
    · rcases get_set e2 with ⟨rfl, rfl⟩ | ⟨n2, e2⟩
      · rfl
      · exact R.inj _ k _ s2 b he rfl e2 o2 h1 h2
    · rcases get_set e2 with ⟨rfl, rfl⟩ | ⟨n2, e2⟩
      · exact R.inj j _ s1 _ b e1 o1 he rfl h1 h2
      · exact R.inj j k s1 s2 b e1 o1 e2 o2 h1 h2
  · exact ⟨R.wd.len, fun k b ys h1 h2 => by
      obtain ⟨us', hb', rr⟩ := R.wd.sto k b ys h1 h2
      exact ⟨us', by rw [upd_ne (show b ≠ a from fun z => nc (z ▸ List.mem_of_getElem? h1))]; exact hb', rr.tr sx.tr⟩, R.wd.cn, R.wd.nd, fun b z e => R.wd.trk b z (tk b e)⟩
  · have : b ≠ a := fun z => by rw [z, n0] at e; cases e
    rw [upd_ne this]
    exact R.base b o e n
/-- a cell changes -/
theorem Rel.writeC {k : Nat} {a : Addr} {vs' : List V} {xs' : List D} (R : Rel mg E N c env st σ H) (hk : c[k]? = some a) (r : RepL mg N c H vs' xs') :
    Rel mg E N c env (st.set k xs') σ (upd H a (.lst vs')) ∧ Sx N c H N c (upd H a (.lst vs')) := by
  have mc : a ∈ c := List.mem_of_getElem? hk
  have na : N a := R.wd.cn a mc
  have keep : ∀ b o, H b = some o → ¬ N b → (upd H a (.lst vs')) b = some o := fun b o e n => by
    rw [upd_ne (show b ≠ a from fun z => n (z ▸ na))]; exact e
  have tk : ∀ b, (upd H a (.lst vs')) b = none → H b = none := fun b e => by
    by_cases q : b = a
    · rw [q, upd_same] at e; cases e
    · rw [upd_ne q] at e; exact e
  have sx : Sx N c H N c (upd H a (.lst vs')) := ⟨keep, fun _ z => .inl z, fun _ _ z => z, fun _ z => .inl z, tk⟩
  have ne_of_own : ∀ (j : Nat) s b, env[j]? = some s → s.isOwn = true → σ[j]? = some (some (.ref b)) → b ≠ a := fun j s b e ho z q => by
    subst q
    exact (R.own j s b e ho z).2.1 mc
  refine ⟨⟨R.len, fun j s' e => ?_, R.own, R.inj, ?_, R.n0, R.t0, fun b o e n => ?_, R.pre, R.newc, R.slf⟩, sx⟩
  · have q := R.sl j s' e
    cases s' with
    | un => trivial
    | val d => obtain ⟨v, ev, rv⟩ := q; exact ⟨v, ev, rv.tr sx.tr⟩
    | own ys => obtain ⟨b, us', ev, hb', rv⟩ := q; exact ⟨b, us', ev, by rw [upd_ne (ne_of_own j _ b e rfl (join_some ev))]; exact hb', rv.tr sx.tr⟩
    | ownI cn ns ds => obtain ⟨b, C, dx, fs, ev, hc, hb', hn, rv⟩ := q; exact ⟨b, C, dx, fs, ev, hc, by rw [upd_ne (ne_of_own j _ b e rfl (join_some ev))]; exact hb', hn, rv.tr sx.tr⟩
    | ownD ks ds => obtain ⟨b, kvs, ev, hb', hn, rv⟩ := q; exact ⟨b, kvs, ev, by rw [upd_ne (ne_of_own j _ b e rfl (join_some ev))]; exact hb', hn, rv.tr sx.tr⟩
  · refine ⟨by rw [List.length_set]; exact R.wd.len, fun j b ys h1 h2 => ?_, R.wd.cn, R.wd.nd, fun b z e => R.wd.trk b z (tk b e)⟩
    rcases get_set h2 with ⟨rfl, rfl⟩ | ⟨ne, h2⟩
    · rw [hk] at h1
      cases h1
      exact ⟨vs', upd_same, r.tr sx.tr⟩
    · obtain ⟨us', hb', rr⟩ := R.wd.sto j b ys h1 h2
      have : b ≠ a := fun z => by
        subst z
        obtain ⟨i1, j1⟩ := List.getElem?_eq_some_iff.mp hk
        obtain ⟨i2, j2⟩ := List.getElem?_eq_some_iff.mp h1
        exact ne ((List.getElem_inj R.wd.nd).mp (j1.trans j2.symm))
      exact ⟨us', by rw [upd_ne this]; exact hb', rr.tr sx.tr⟩
  · have : b ≠ a := fun z => n (z ▸ mc)
    rw [upd_ne this]
    exact R.base b o e n
/-- a list of the frame's own is data from now on -/
def frz (i : Nat) (env : Env) : Env := match env[i]? with
  | some (.own xs) => env.set i (.val (.lst xs))
  | some (.ownD ks xs) => env.set i (.val (.dic ks xs))
  | _ => env
theorem Rel.frz {i : Nat} (R : Rel mg E N c env st σ H) : ∃ N', Rel mg E N' c (LW.frz i env) st σ H ∧ Sx N c H N' c H := by
  unfold LW.frz
  split
  · rename_i xs he
    obtain ⟨a, vs, es, ha, r⟩ := R.sl i _ he
    have es := join_some es
    obtain ⟨na, nc, n0⟩ := R.own i _ a he rfl es
    have less : ∀ b, (N b ∧ b ≠ a) → N b := fun b z => z.1
    have tr : Tr N c H (fun b => N b ∧ b ≠ a) c H := Tr.less less
    have il : i < env.length := (List.getElem?_eq_some_iff.mp he).1
    refine ⟨fun b => N b ∧ b ≠ a, ⟨by rw [List.length_set]; exact R.len, fun j s' e => ?_, fun j s' b e ho z => ?_, fun j k s1 s2 b e1 o1 e2 o2 h1 h2 => ?_, R.wd.less less fun b z => ⟨R.wd.cn b z, fun q => nc (q ▸ z)⟩, fun b z => ⟨R.n0 b z, fun q => R.t0 b z (by rw [q]; exact n0)⟩, R.t0, R.base, R.pre, R.newc, fun j cn ns ds b e z => (get_set e).elim (fun q => nomatch q.2) fun q => R.slf j cn ns ds b q.2 z⟩, ⟨fun _ _ e _ => e, fun b z => .inl z.1, fun _ _ z => z, fun _ z => .inl z, fun _ z => z⟩⟩
    · rcases get_set e with ⟨rfl, rfl⟩ | ⟨ne, e⟩
      · rw [es]
        exact ⟨.ref a, rfl, .lst ha (fun z => z.2 rfl) (r.tr tr)⟩
      · have q := R.sl j s' e
        cases s' with
        | un => trivial
        | val d => obtain ⟨v, ev, rv⟩ := q; exact ⟨v, ev, rv.tr tr⟩
        | own ys => obtain ⟨b, us', ev, hb', rv⟩ := q; exact ⟨b, us', ev, hb', rv.tr tr⟩
        | ownI cn ns ds => obtain ⟨b, C, dx, fs, ev, hc, hb', hn, rv⟩ := q; exact ⟨b, C, dx, fs, ev, hc, hb', hn, rv.tr tr⟩
        | ownD ks ds => obtain ⟨b, kvs, ev, hb', hn, rv⟩ := q; exact ⟨b, kvs, ev, hb', hn, rv.tr tr⟩
    · rcases get_set e with ⟨rfl, rfl⟩ | ⟨ne, e⟩
      · cases ho
      · obtain ⟨z1, z2, z3⟩ := R.own j s' b e ho z
        refine ⟨⟨z1, fun q => ?_⟩, z2, z3⟩
        subst q
        exact ne (R.inj i j _ s' b he rfl e ho es z)
    · rcases get_set e1 with ⟨rfl, rfl⟩ | ⟨n1, e1⟩
      · cases o1
      · rcases get_set e2 with ⟨rfl, rfl⟩ | ⟨n2, e2⟩
        · cases o2
        · exact R.inj j k s1 s2 b e1 o1 e2 o2 h1 h2
  · rename_i ks xs he
    obtain ⟨a, kvs, es, ha, hm, r⟩ := R.sl i _ he
    have es := join_some es
    obtain ⟨na, nc, n0⟩ := R.own i _ a he rfl es
    have less : ∀ b, (N b ∧ b ≠ a) → N b := fun b z => z.1
    have tr : Tr N c H (fun b => N b ∧ b ≠ a) c H := Tr.less less
    have il : i < env.length := (List.getElem?_eq_some_iff.mp he).1
    refine ⟨fun b => N b ∧ b ≠ a, ⟨by rw [List.length_set]; exact R.len, fun j s' e => ?_, fun j s' b e ho z => ?_, fun j k s1 s2 b e1 o1 e2 o2 h1 h2 => ?_, R.wd.less less fun b z => ⟨R.wd.cn b z, fun q => nc (q ▸ z)⟩, fun b z => ⟨R.n0 b z, fun q => R.t0 b z (by rw [q]; exact n0)⟩, R.t0, R.base, R.pre, R.newc, fun j cn ns ds b e z => (get_set e).elim (fun q => nomatch q.2) fun q => R.slf j cn ns ds b q.2 z⟩, ⟨fun _ _ e _ => e, fun b z => .inl z.1, fun _ _ z => z, fun _ z => .inl z, fun _ z => z⟩⟩
    · rcases get_set e with ⟨rfl, rfl⟩ | ⟨ne, e⟩
      · rw [es]
        exact ⟨.ref a, rfl, .dic ha (fun z => z.2 rfl) hm (r.tr tr)⟩
      · have q := R.sl j s' e
        cases s' with
        | un => trivial
        | val d => obtain ⟨v, ev, rv⟩ := q; exact ⟨v, ev, rv.tr tr⟩
        | own ys => obtain ⟨b, us', ev, hb', rv⟩ := q; exact ⟨b, us', ev, hb', rv.tr tr⟩
        | ownI cn ns ds => obtain ⟨b, C, dx, fs, ev, hc, hb', hn, rv⟩ := q; exact ⟨b, C, dx, fs, ev, hc, hb', hn, rv.tr tr⟩
        | ownD ks ds => obtain ⟨b, kvs, ev, hb', hn, rv⟩ := q; exact ⟨b, kvs, ev, hb', hn, rv.tr tr⟩
    · rcases get_set e with ⟨rfl, rfl⟩ | ⟨ne, e⟩
      · cases ho
      · obtain ⟨z1, z2, z3⟩ := R.own j s' b e ho z
        refine ⟨⟨z1, fun q => ?_⟩, z2, z3⟩
        subst q
        exact ne (R.inj i j _ s' b he rfl e ho es z)
    · rcases get_set e1 with ⟨rfl, rfl⟩ | ⟨n1, e1⟩
      · cases o1
      · rcases get_set e2 with ⟨rfl, rfl⟩ | ⟨n2, e2⟩
        · cases o2
        · exact R.inj j k s1 s2 b e1 o1 e2 o2 h1 h2
  · exact ⟨N, R, Sx.refl⟩
end
end LW

/-! LwI: statements by plain functions. -/
namespace LW
open PySem L2 PyProof.Rows

def PostS (mg : Glob) (E : En) (N : Prot) (c : List Addr) (H : Hp) (De : Ends) (o : Out) (st' : Sto) : Prop := match o with
  | .nx env' => ∀ N' c' σ' H', Sx N c H N' c' H' → Rel mg E N' c' env' st' σ' H' → De.nx σ' H'
  | .bk env' => ∀ N' c' σ' H', Sx N c H N' c' H' → Rel mg E N' c' env' st' σ' H' → De.bk σ' H'
  | .ct env' => ∀ N' c' σ' H', Sx N c H N' c' H' → Rel mg E N' c' env' st' σ' H' → De.ct σ' H'
  | .rt d => ∀ c' H' v, Fin mg E c' st' H' v d → De.rt v H'
theorem tS_def {mg : Glob} {f : SS} {De : Ends} {σ : L2.St} {H : Hp} : tS mg f De σ H ↔ ∃ (E : En) (N : Prot) (c : List Addr) (env : Env) (st : Sto) (o : Out) (st' : Sto), Rel mg E N c env st σ H ∧ f env st = some (o, st') ∧ PostS mg E N c H De o st' := Iff.rfl
section
variable {mg : Glob} {E : En} {N N' : Prot} {c c' : List Addr} {H H' : Hp} {De : Ends} {o : Out} {st st' : Sto} {env env' : Env} {σ : L2.St}
theorem PostS.from (x : Sx N c H N' c' H') (p : PostS mg E N c H De o st') : PostS mg E N' c' H' De o st' := by
  cases o with
  | nx e => exact fun N2 c2 σ2 H2 x2 R2 => p N2 c2 σ2 H2 (x.trans x2) R2
  | bk e => exact fun N2 c2 σ2 H2 x2 R2 => p N2 c2 σ2 H2 (x.trans x2) R2
  | ct e => exact fun N2 c2 σ2 H2 x2 R2 => p N2 c2 σ2 H2 (x.trans x2) R2
  | rt d => exact p
end
def sNil : SS := fun env st => some (.nx env, st)
def sSeq (f g : SS) : SS := fun env st => match f env st with
  | some (.nx e, s1) => g e s1
  | some (.rt d, s1) => some (.rt d, s1)
  | some (.bk e, s1) => some (.bk e, s1)
  | some (.ct e, s1) => some (.ct e, s1)
  | none => none
def sBreak : SS := fun env st => some (.bk env, st)
def sCont : SS := fun env st => some (.ct env, st)
def sRet (f : SE) : SS := fun env st => match f env st with
  | some (d, s1) => some (.rt d, s1)
  | none => none
def sRetN : SS := fun _ st => some (.rt .non, st)
def sDrop (f : SE) : SS := fun env st => match f env st with
  | some (_, s1) => some (.nx env, s1)
  | none => none
def sSet (i : Nat) (f : SE) : SS := fun env st => match f env st with
  | some (d, s1) => some (.nx (env.set i (.val d)), s1)
  | none => none
def sOwn (i : Nat) (f : Fx (List D)) : SS := fun env st => match f env st with
  | some (xs, s1) => some (.nx (env.set i (.own xs)), s1)
  | none => none
def sIf (t : SB) (f g : SS) : SS := fun env st => match t env st with
  | some (true, s1) => f env s1
  | some (false, s1) => g env s1
  | none => none
/-- ahead of the rest a list of the frame's own becomes data -/
def sFrz (i : Nat) (f : SS) : SS := fun env st => f (frz i env) st
section
variable {mg : Glob} {X : Cx} {s : Stmt} {rest : List Stmt} {e : Expr} {pos : Pos} {f g : SS} {fe : SE} {fl : Fx (List D)} {t : SB}
theorem s_nil : PSs X [] (tS mg sNil) := pss_weak pss_nil fun De σ H h => by
  obtain ⟨E, N, c, env, st, o, st', R, q, p⟩ := tS_def.mp h
  cases q
  exact p N c σ H Sx.refl R
theorem s_cons (h1 : PS X s (tS mg f)) (h2 : PSs X rest (tS mg g)) : PSs X (s :: rest) (tS mg (sSeq f g)) := pss_weak (pss_cons h1 h2) fun De σ H h => by
  obtain ⟨E, N, c, env, st, o, st', R, q, p⟩ := tS_def.mp h
  unfold sSeq at q
  split at q
  · rename_i e1 s1 q1
    refine tS_def.mpr ⟨E, N, c, env, st, .nx e1, s1, R, q1, fun N1 c1 σ1 H1 x1 R1 => ?_⟩
    exact tS_def.mpr ⟨E, N1, c1, e1, s1, o, st', R1, q, p.from x1⟩
  · rename_i d s1 q1
    cases q
    exact tS_def.mpr ⟨E, N, c, env, st, _, _, R, q1, p⟩
  · rename_i d s1 q1
    cases q
    exact tS_def.mpr ⟨E, N, c, env, st, _, _, R, q1, p⟩
  · rename_i d s1 q1
    cases q
    exact tS_def.mpr ⟨E, N, c, env, st, _, _, R, q1, p⟩
  · cases q
theorem s_one (h1 : PS X s (tS mg f)) : PSs X [s] (tS mg f) := pss_one h1
theorem s_pass : PS X (.Pass pos) (tS mg sNil) := ps_weak ps_pass fun De σ H h => by
  obtain ⟨E, N, c, env, st, o, st', R, q, p⟩ := tS_def.mp h
  cases q
  exact p N c σ H Sx.refl R
theorem s_break : PS X (.Break pos) (tS mg sBreak) := ps_weak ps_break fun De σ H h => by
  obtain ⟨E, N, c, env, st, o, st', R, q, p⟩ := tS_def.mp h
  cases q
  exact p N c σ H Sx.refl R
theorem s_cont : PS X (.Continue pos) (tS mg sCont) := ps_weak ps_continue fun De σ H h => by
  obtain ⟨E, N, c, env, st, o, st', R, q, p⟩ := tS_def.mp h
  cases q
  exact p N c σ H Sx.refl R
/-- code that is never come to: none -/
def sNever : SS := fun _ _ => none
theorem s_never : PS X s (tS mg sNever) := ps_weak ps_never fun De σ H h => by
  obtain ⟨E, N, c, env, st, o, st', R, q, p⟩ := tS_def.mp h
  cases q
theorem s_ret (he : PE X e (tE mg fe)) : PS X (.Return (some e) pos) (tS mg (sRet fe)) := ps_weak (ps_ret he) fun De σ H h => by
  obtain ⟨E, N, c, env, st, o, st', R, q, p⟩ := tS_def.mp h
  unfold sRet at q
  split at q
  · rename_i d s1 q1
    cases q
    exact ⟨E, N, c, env, st, _, _, R, q1, fun v N' c' H' x W r => p c' H' v ((R.ex x W).fin r)⟩
  · cases q
theorem s_retN : PS X (.Return none pos) (tS mg sRetN) := ps_weak ps_retN fun De σ H h => by
  obtain ⟨E, N, c, env, st, o, st', R, q, p⟩ := tS_def.mp h
  cases q
  exact p c H .non (R.fin .non)
theorem s_drop (he : PE X e (tP mg fe)) (hs : swapsWith e none pos.line X.env = pure false := by rfl) : PS X (.Expr e pos) (tS mg (sDrop fe)) := ps_weak (ps_expr he hs) fun De σ H h => by
  obtain ⟨E, N, c, env, st, o, st', R, q, p⟩ := tS_def.mp h
  unfold sDrop at q
  split at q
  · rename_i d s1 q1
    cases q
    exact ⟨E, N, c, env, st, _, _, R, q1, fun v N' c' H' x W r => p N' c' σ H' (x.sx R.wd W) (R.ex x W)⟩
  · cases q
theorem s_doc {x j pos pos'} : PS X (.Expr (.Constant (.str x) j pos) pos') (tS mg sNil) := ps_weak ps_doc fun De σ H h => by
  obtain ⟨E, N, c, env, st, o, st', R, q, p⟩ := tS_def.mp h
  cases q
  exact p N c σ H Sx.refl R
theorem s_set {i : Nat} {x : Str} {pos' : Pos} (hN : X.N.Nodup) (he : PE X e (tE mg fe)) (hi : X.N[i]? = some x := by rfl) (hx : Loc X.env.scope x := by first | exact Or.inl rfl | exact Or.inr rfl) (hs : swapsWith e (some (.Name x pos')) pos.line X.env = pure false := by rfl) (hf : X.fn x = true ∨ X.env.scope.names.lookup x = some .local := by first | exact .inl rfl | exact .inr rfl) :
    PS X (.Assign [.Name x pos'] e pos) (tS mg (sSet i fe)) := ps_weak (ps_set hN hi hx he hs hf) fun De σ H h => by
  obtain ⟨E, N, c, env, st, o, st', R, q, p⟩ := tS_def.mp h
  unfold sSet at q
  split at q
  · rename_i d s1 q1
    cases q
    exact ⟨E, N, c, env, st, _, _, R, q1, fun v N' c' H' x W r => p N' c' _ H' (x.sx R.wd W) ((R.ex x W).set rfl ⟨v, rfl, r⟩)⟩
  · cases q
/-- name = a new list of the frame's own -/
theorem r_own {i : Nat} {De : Ends} {σ : L2.St} {H : Hp} (h : tS mg (sOwn i fl) De σ H) : tAsg (tL mg fl) (gName i) De σ H := by
  obtain ⟨E, N, c, env, st, o, st', R, q, p⟩ := tS_def.mp h
  unfold sOwn at q
  split at q
  · rename_i xs s1 q1
    cases q
    refine ⟨E, N, c, env, st, _, _, R, q1, fun v N' c' H' x W r => ?_⟩
    obtain ⟨a, vs, rfl, hn, na, nc, ha, rr⟩ := r
    exact p N' c' _ H' (x.sx R.wd W) ((R.ex x W).setOwn ha na nc (R.fresh0 hn) rr (R.notOwn hn))
  · cases q
theorem s_own {i : Nat} {x : Str} {pos' : Pos} (hN : X.N.Nodup) (he : PE X e (tL mg fl)) (hi : X.N[i]? = some x := by rfl) (hx : Loc X.env.scope x := by first | exact Or.inl rfl | exact Or.inr rfl) (hs : swapsWith e (some (.Name x pos')) pos.line X.env = pure false := by rfl) (hf : X.fn x = true ∨ X.env.scope.names.lookup x = some .local := by first | exact .inl rfl | exact .inr rfl) :
    PS X (.Assign [.Name x pos'] e pos) (tS mg (sOwn i fl)) := ps_weak (ps_set hN hi hx he hs hf) fun De σ H h => r_own h
theorem s_if {c : Expr} {a b : List Stmt} (hc : PT X c (tT mg t)) (ha : PSs X a (tS mg f)) (hb : PSs X b (tS mg g)) : PS X (.If c a b pos) (tS mg (sIf t f g)) := ps_weak (ps_if hc ha hb) fun De σ H h => by
  obtain ⟨E, N, c, env, st, o, st', R, q, p⟩ := tS_def.mp h
  unfold sIf at q
  split at q
  · rename_i s1 q1
    exact ⟨E, N, c, env, st, true, s1, R, q1, fun N1 c1 H1 x1 W1 => iteT (tS_def.mpr ⟨E, N1, c1, env, s1, o, st', R.ex x1 W1, q, p.from (x1.sx R.wd W1)⟩)⟩
  · rename_i s1 q1
    exact ⟨E, N, c, env, st, false, s1, R, q1, fun N1 c1 H1 x1 W1 => iteF (tS_def.mpr ⟨E, N1, c1, env, s1, o, st', R.ex x1 W1, q, p.from (x1.sx R.wd W1)⟩)⟩
  · cases q
theorem r_frz {i : Nat} {De : Ends} {σ : L2.St} {H : Hp} (h : tS mg (sFrz i f) De σ H) : tS mg f De σ H := by
  obtain ⟨E, N, c, env, st, o, st', R, q, p⟩ := tS_def.mp h
  obtain ⟨N', R', x⟩ := R.frz (i := i)
  exact tS_def.mpr ⟨E, N', c, frz i env, st, o, st', R', q, p.from x⟩
theorem s_frz (i : Nat) (h : PS X s (tS mg f)) : PS X s (tS mg (sFrz i f)) := ps_weak h fun _ _ _ z => r_frz z
end

/-! ### lists of the frame's own and cells, changed -/
def sApp (i : Nat) (f : SE) : SS := fun env st => match f env st with
  | some (d, s1) => match env[i]? with
    | some (.own xs) => if xs.length < 1000000 then some (.nx (env.set i (.own (xs ++ [d]))), s1) else none
    | _ => none
  | none => none
def sAppC (fo f : SE) : SS := fun env st => match fo env st with
  | some (.cell k, s1) => match f env s1 with
    | some (d, s2) => match s2[k]? with
      | some xs => if xs.length < 1000000 then some (.nx env, s2.set k (xs ++ [d])) else none
      | none => none
    | none => none
  | _ => none
/-- x[j] = e -/
def sPut (i : Nat) (fj fe : SE) : SS := fun env st => match fe env st with
  | some (d, s1) => match fj env s1 with
    | some (.int j, s2) => match env[i]? with
      | some (.own xs) => match ixN xs.length j with
        | some n => some (.nx (env.set i (.own (xs.set n d))), s2)
        | none => none
      | _ => none
    | _ => none
  | none => none
def sPutC (fo fj fe : SE) : SS := fun env st => match fe env st with
  | some (d, s1) => match fo env s1 with
    | some (.cell k, s2) => match fj env s2 with
      | some (.int j, s3) => match s3[k]? with
        | some xs => match ixN xs.length j with
          | some n => some (.nx env, s3.set k (xs.set n d))
          | none => none
        | none => none
      | _ => none
    | _ => none
  | none => none
theorem sz7 {n : Nat} (h : n < 1000000) : n < sizeLine := Nat.lt_trans h (by decide)
section
variable {mg : Glob} {X : Cx} {e o ej : Expr} {pos apos cpos tpos : Pos} {fe fo fj : SE}
theorem s_app {i : Nat} {x : Str} {p1 : Pos} (he : PE X e (tE mg fe)) (hN : X.N[i]? = some x := by rfl) (hv : Vis X.env.scope x := by first | exact Or.inl rfl | exact Or.inr (Or.inl rfl) | exact Or.inr (Or.inr rfl)) (hd : (x == ("__debug__" : Str)) = false := by decide)
    (hcd : (x == ("__classdict__" : Str)) = false := by decide) (hs : swapsWith (.Call (.Attribute (.Name x p1) "append" apos) [e] [] cpos) none pos.line X.env = pure false := by rfl)
    (hbase : attributeBase (.Name x p1) "append" X.env (eval (.Name x p1) X.env) = eval (.Name x p1) X.env := by rfl)
    (hfew : ((backTo cpos (starEach [e] X.env)).all (fun x => !x.1) && (backToKw cpos (keywordEach [] X.env)).all (fun x => x.1.isSome)
      && decide ([e].length + ([] : List Keyword).length + (if ([] : List Keyword).isEmpty then 0 else 1) < 30)) = true := by rfl)
    (hline : (apos.endLine == cpos.line) = true := by rfl) (hst : starEach [e] X.env = (false, eval e X.env) :: starEach [] X.env := by rfl) (hplain : (backTo cpos (starEach [] X.env)).any (·.1) = false := by rfl) :
    PS X (.Expr (.Call (.Attribute (.Name x p1) "append" apos) [e] [] cpos) pos) (tS mg (sApp i fe)) :=
  ps_weak (ps_expr (pe_bm PySem.F.plainAttrs_list PySem.F.slot_list_append PySem.F.type_list_append mt_append (pe_var hN hv hd hcd) (pa_cons he pa_nil hst) hbase hfew hline hst hplain) hs) fun De σ H h => by
    obtain ⟨E, N, c, env, st, o, st', R, q, p⟩ := tS_def.mp h
    unfold sApp at q
    split at q
    · rename_i d s1 q1
      split at q
      · rename_i xs hx
        split at q
        · rename_i hl
          cases q
          obtain ⟨a, vs, ea, ha, rr⟩ := R.sl i _ hx
          have ea := join_some ea
          refine ⟨.ref a, ea, .inl ⟨rfl, vs, SqL.of ha⟩, E, N, c, env, st, d, _, R, q1, fun v N1 c1 H1 x1 W1 r1 => ?_⟩
          have R1 := R.ex x1 W1
          obtain ⟨b, us, eb, hb, r2⟩ := R1.sl i _ hx
          rw [ea] at eb
          cases eb
          have wr := R1.write (vs := us) hx ea (r2.append (.cons r1 .nil))
          exact ⟨a, us, v, rfl, rfl, hb, by rw [r2.length]; exact sz7 hl, p N1 c1 σ _ ((x1.sx R.wd W1).trans wr.2) wr.1⟩
        · cases q
      · cases q
    · cases q
theorem s_appC (ho : PE X o (tE mg fo)) (he : PE X e (tE mg fe)) (hs : swapsWith (.Call (.Attribute o "append" apos) [e] [] cpos) none pos.line X.env = pure false := by rfl)
    (hbase : attributeBase o "append" X.env (eval o X.env) = eval o X.env := by rfl)
    (hfew : ((backTo cpos (starEach [e] X.env)).all (fun x => !x.1) && (backToKw cpos (keywordEach [] X.env)).all (fun x => x.1.isSome)
      && decide ([e].length + ([] : List Keyword).length + (if ([] : List Keyword).isEmpty then 0 else 1) < 30)) = true := by rfl)
    (hline : (apos.endLine == cpos.line) = true := by rfl) (hst : starEach [e] X.env = (false, eval e X.env) :: starEach [] X.env := by rfl) (hplain : (backTo cpos (starEach [] X.env)).any (·.1) = false := by rfl) :
    PS X (.Expr (.Call (.Attribute o "append" apos) [e] [] cpos) pos) (tS mg (sAppC fo fe)) :=
  ps_weak (ps_expr (pe_bm PySem.F.plainAttrs_list PySem.F.slot_list_append PySem.F.type_list_append mt_append ho (pa_cons he pa_nil hst) hbase hfew hline hst hplain) hs) fun De σ H h => by
    obtain ⟨E, N, c, env, st, o, st', R, q, p⟩ := tS_def.mp h
    unfold sAppC at q
    split at q
    · rename_i k s1 q1
      split at q
      · rename_i d s2 q2
        split at q
        · rename_i xs hx
          split at q
          · rename_i hl
            cases q
            refine ⟨E, N, c, env, st, _, s1, R, q1, fun v N1 c1 H1 x1 W1 r1 => ?_⟩
            cases r1 with
            | cell hk =>
              rename_i a
              have kl : k < s1.length := by rw [← W1.len]; exact (List.getElem?_eq_some_iff.mp hk).1
              obtain ⟨vs, ha, rr⟩ := W1.sto k a _ hk (List.getElem?_eq_getElem kl)
              refine ⟨.inl ⟨rfl, vs, SqL.of ha⟩, E, N1, c1, env, s1, d, s2, R.ex x1 W1, q2, fun w N2 c2 H2 x2 W2 r2 => ?_⟩
              have x12 := x1.trans x2 R.wd
              have R2 := R.ex x12 W2
              have hk2 := x2.pre k a hk
              obtain ⟨us, hb, r3⟩ := W2.sto k a xs hk2 hx
              have wr := R2.writeC hk2 (r3.append (.cons r2 .nil))
              exact ⟨a, us, w, rfl, rfl, hb, by rw [r3.length]; exact sz7 hl, p N2 c2 σ _ ((x12.sx R.wd W2).trans wr.2) wr.1⟩
          · cases q
        · cases q
      · cases q
    · cases q
theorem s_put {i : Nat} {x : Str} {p1 : Pos} (he : PE X e (tE mg fe)) (hj : PE X ej (tP mg fj)) (hN : X.N[i]? = some x := by rfl) (hv : Vis X.env.scope x := by first | exact Or.inl rfl | exact Or.inr (Or.inl rfl) | exact Or.inr (Or.inr rfl)) (hd : (x == ("__debug__" : Str)) = false := by decide)
    (hcd : (x == ("__classdict__" : Str)) = false := by decide) (ha : ∀ v, assign (.Subscript (.Name x p1) ej tpos) X.env v = (do
      let ov ← holding [v] (eval (.Name x p1) X.env)
      let iv ← holding [v, ov] (eval ej X.env)
      standAt tpos
      holding [v, ov, iv] (setItem ov iv v)
      release [v, ov, iv] []) := by intro _; rfl) (hs : swapsWithSole [.Subscript (.Name x p1) ej tpos] e pos.line X.env = pure false := by rfl) (hw : swappedStores [.Subscript (.Name x p1) ej tpos] e X.env = pure none := by rfl)
    (h1 : (assignEach [.Subscript (.Name x p1) ej tpos] X.env).map (·.2) = [assign (.Subscript (.Name x p1) ej tpos) X.env] := by rfl) : PS X (.Assign [.Subscript (.Name x p1) ej tpos] e pos) (tS mg (sPut i fj fe)) :=
  ps_weak (ps_asg he (pg_sub (pe_var hN hv hd hcd) hj set_list ha) hs hw h1) fun De σ H h => by
    obtain ⟨E, N, c, env, st, o, st', R, q, p⟩ := tS_def.mp h
    unfold sPut at q
    split at q
    · rename_i d s1 q1
      split at q
      · rename_i j s2 q2
        split at q
        · rename_i xs hx
          split at q
          · rename_i n hn
            cases q
            refine ⟨E, N, c, env, st, d, s1, R, q1, fun v N1 c1 H1 x1 W1 r1 => ?_⟩
            have R1 := R.ex x1 W1
            obtain ⟨a, vs, ea, ha, rr⟩ := R1.sl i _ hx
            have ea := join_some ea
            refine ⟨.ref a, ea, E, N1, c1, env, s1, _, _, R1, q2, fun w N2 c2 H2 x2 W2 r2 => ?_⟩
            have R2 := R1.ex x2 W2
            obtain ⟨b, us, eb, hb, r3⟩ := R2.sl i _ hx
            rw [ea] at eb
            cases eb
            have wr := R2.write (vs := us) hx ea (r3.set (Rep.tr (x2.tr W1) r1) n)
            exact ⟨a, us, j, n, rfl, r2.int, hb, by rw [r3.length]; exact hn, p N2 c2 σ _ (((x1.trans x2 R.wd).sx R.wd W2).trans wr.2) wr.1⟩
          · cases q
        · cases q
      · cases q
    · cases q
theorem s_putC (he : PE X e (tE mg fe)) (ho : PE X o (tE mg fo)) (hj : PE X ej (tP mg fj)) (ha : ∀ v, assign (.Subscript o ej tpos) X.env v = (do
      let ov ← holding [v] (eval o X.env)
      let iv ← holding [v, ov] (eval ej X.env)
      standAt tpos
      holding [v, ov, iv] (setItem ov iv v)
      release [v, ov, iv] []) := by intro _; rfl) (hs : swapsWithSole [.Subscript o ej tpos] e pos.line X.env = pure false := by rfl) (hw : swappedStores [.Subscript o ej tpos] e X.env = pure none := by rfl)
    (h1 : (assignEach [.Subscript o ej tpos] X.env).map (·.2) = [assign (.Subscript o ej tpos) X.env] := by rfl) : PS X (.Assign [.Subscript o ej tpos] e pos) (tS mg (sPutC fo fj fe)) :=
  ps_weak (ps_asg he (pg_sub ho hj set_list ha) hs hw h1) fun De σ H h => by
    obtain ⟨E, N, c, env, st, o, st', R, q, p⟩ := tS_def.mp h
    unfold sPutC at q
    split at q
    · rename_i d s1 q1
      split at q
      · rename_i k s2 q2
        split at q
        · rename_i j s3 q3
          split at q
          · rename_i xs hx
            split at q
            · rename_i n hn
              cases q
              refine ⟨E, N, c, env, st, d, s1, R, q1, fun v N1 c1 H1 x1 W1 r1 => ?_⟩
              refine ⟨E, N1, c1, env, s1, _, s2, R.ex x1 W1, q2, fun w N2 c2 H2 x2 W2 r2 => ?_⟩
              have x12 := x1.trans x2 R.wd
              cases r2 with
              | cell hk =>
                rename_i a
                refine ⟨E, N2, c2, env, s2, _, s3, R.ex x12 W2, q3, fun z N3 c3 H3 x3 W3 r3 => ?_⟩
                have x13 := x12.trans x3 R.wd
                have R3 := R.ex x13 W3
                have hk3 := x3.pre k a hk
                obtain ⟨us, hb, r4⟩ := W3.sto k a xs hk3 hx
                have rv : Rep mg N3 c3 H3 v d := Rep.tr (x3.tr W2) (Rep.tr (x2.tr W1) r1)
                have wr := R3.writeC hk3 (r4.set rv n)
                exact ⟨a, us, j, n, rfl, r3.int, hb, by rw [r4.length]; exact hn, p N3 c3 σ _ ((x13.sx R.wd W3).trans wr.2) wr.1⟩
            · cases q
          · cases q
        · cases q
      · cases q
    · cases q
end

/-! ### several targets -/
def gNames : List Nat → TGs
  | [] => gNil
  | i :: r => gCons (gName i) (gNames r)
def setAll : List Nat → List D → Env → Option Env
  | [], [], env => some env
  | i :: is, d :: ds, env => setAll is ds (env.set i (.val d))
  | _, _, _ => none
section
variable {mg : Glob} {X : Cx} {e : Expr} {es : List Expr} {pos : Pos} {fe : SE}
theorem g_nil : PGs X [] (gNames []) := pgs_nil
theorem g_cons {i : Nat} {is : List Nat} {x : Str} {p1 : Pos} (hN : X.N.Nodup) (h2 : PGs X es (gNames is)) (hi : X.N[i]? = some x := by rfl) (hx : Loc X.env.scope x := by first | exact Or.inl rfl | exact Or.inr rfl) (hf : X.fn x = true ∨ X.env.scope.names.lookup x = some .local := by first | exact .inl rfl | exact .inr rfl)
    (hs : (assignEach (.Name x p1 :: es) X.env).map (·.2) = assign (.Name x p1) X.env :: (assignEach es X.env).map (·.2) := by rfl) : PGs X (.Name x p1 :: es) (gNames (i :: is)) := pgs_cons (pg_name hN hi hx hf) h2 hs
theorem r_names {E : En} {N : Prot} {c : List Addr} {H : Hp} {st : Sto} {Q : L2.St → Hp → Prop} : ∀ {is : List Nat} {ds : List D} {vs : List V} {env env' : Env} {σ : L2.St}, Rel mg E N c env st σ H → RepL mg N c H vs ds → setAll is ds env = some env' → (∀ σ', Rel mg E N c env' st σ' H → Q σ' H) → gNames is vs σ H Q
  | [], [], _, _, _, σ, R, .nil, e, k => by
    cases e
    exact ⟨rfl, k σ R⟩
  | [], _ :: _, _, _, _, _, _, _, e, _ => by cases e
  | _ :: _, [], _, _, _, _, _, _, e, _ => by cases e
  | i :: is, d :: ds, _, env, env', σ, R, .cons h t, e, k => by
    refine ⟨_, _, rfl, ?_⟩
    exact r_names (R.set (s := .val d) rfl ⟨_, rfl, h⟩) t e k
theorem setAll_len : ∀ {is : List Nat} {ds : List D} {env env' : Env}, setAll is ds env = some env' → ds.length = is.length
  | [], [], _, _, _ => rfl
  | [], _ :: _, _, _, e => by cases e
  | _ :: _, [], _, _, e => by cases e
  | i :: is, d :: ds, env, env', e => by rw [List.length_cons, List.length_cons, setAll_len (show setAll is ds (env.set i (.val d)) = some env' from e)]
/-- (a, b, ..) = e -/
def sUnp (is : List Nat) (f : SE) : SS := fun env st => match f env st with
  | some (.tup ds, s1) => match setAll is ds env with
    | some env' => some (.nx env', s1)
    | none => none
  | _ => none
theorem s_unp {is : List Nat} {k : Nat} {tpos : Pos} (hc : X.calm = true) (he : PE X e (tE mg fe)) (hg : PGs X es (gNames is)) (hn : (assignEach es X.env).length = is.length := by rfl) (hst : (assignEach es X.env).findIdx? (·.1) = none := by rfl)
    (hs : swapsWithSole [.Tuple es k tpos] e pos.line X.env = pure false := by rfl) (hw : swappedStores [.Tuple es k tpos] e X.env = pure none := by rfl) (h1 : (assignEach [.Tuple es k tpos] X.env).map (·.2) = [assign (.Tuple es k tpos) X.env] := by rfl) :
    PS X (.Assign [.Tuple es k tpos] e pos) (tS mg (sUnp is fe)) := ps_weak (ps_asg he (pg_tup hc hg hn hst) hs hw h1) fun De σ H h => by
  obtain ⟨E, N, c, env, st, o, st', R, q, p⟩ := tS_def.mp h
  unfold sUnp at q
  split at q
  · rename_i ds s1 q1
    split at q
    · rename_i env' hs
      cases q
      refine ⟨E, N, c, env, st, _, _, R, q1, fun v N1 c1 H1 x1 W1 r1 => ?_⟩
      obtain ⟨a, vs, rfl, ha, rr⟩ := RepT.tup (.inl r1)
      refine ⟨a, vs, rfl, SqT.of ha, by rw [rr.length]; exact setAll_len hs, r_names (R.ex x1 W1) rr hs fun σ' R' => p N1 c1 σ' H1 (x1.sx R.wd W1) R'⟩
    · cases q
  · cases q
end
end LW

/-! LwJ: what is walked; for; list comprehensions. -/
namespace LW
open PySem L2 PyProof.Rows

/-- what is walked: the items, and what must stay true of the cells meanwhile -/
abbrev Src := List D × (Sto → Bool)
def noChk : Sto → Bool := fun _ => true
/-- the iterator J yields the items xs, from a state on, as long as what is not protected stays -/
structure ItL (mg : Glob) (J : It) (xs : Src) (N1 : Prot) (c1 : List Addr) (H1 : Hp) : Prop where
  stop : ∀ N c H st, Sx N1 c1 H1 N c H → Wd mg N c H st → xs.2 st = true → J.stop xs.1.length H
  go : ∀ (i : Nat) N c H st, i < xs.1.length → Sx N1 c1 H1 N c H → Wd mg N c H st → xs.2 st = true → J.go i H
  yld : ∀ (i : Nat) N c H st x H', i < xs.1.length → Sx N1 c1 H1 N c H → Wd mg N c H st → xs.2 st = true → J.yld i H x H' → ∃ d, xs.1[i]? = some d ∧ Ex N c H N c H' ∧ Wd mg N c H' st ∧ Rep mg N c H' x d
def tI (mg : Glob) (f : Fx Src) : TI := fun σ H R => ∃ (E : En) (N : Prot) (c : List Addr) (env : Env) (st : Sto) (xs : Src) (st' : Sto), Rel mg E N c env st σ H ∧ f env st = some (xs, st') ∧
  ∀ J N' c' H', Ex N c H N' c' H' → Wd mg N' c' H' st' → ItL mg J xs N' c' H' → R J H'
/-- a target: asg sets the slots is -/
def Dif (is : List Nat) (σ σ' : L2.St) : Prop := ∀ vs : List Nat, (∀ i ∈ is, i ∈ vs) → wipe σ' vs = wipe σ vs
def GOk (mg : Glob) (g : TG) (asg : D → Env → Option Env) (is : List Nat) : Prop := ∀ (E : En) (N : Prot) (c : List Addr) (env env' : Env) (st : Sto) (σ : L2.St) (H : Hp) (v : V) (d : D) (Q : L2.St → Hp → Prop), Rel mg E N c env st σ H → Rep mg N c H v d → asg d env = some env' →
  (∀ σ', Rel mg E N c env' st σ' H → Dif is σ σ' → Q σ' H) → g v σ H Q
def asgN (i : Nat) : D → Env → Option Env := fun d env => some (env.set i (.val d))
def asgT (is : List Nat) : D → Env → Option Env := fun d env => match d with
  | .tup ds => setAll is ds env
  | _ => none
section
variable {mg : Glob}
theorem wipe_set : ∀ {vs : List Nat} {σ : L2.St} {i : Nat} {y : Option V}, i ∈ vs → wipe (σ.set i y) vs = wipe σ vs
  | [], _, _, _, h => by cases h
  | v :: vs, σ, i, y, h => by
    unfold wipe
    by_cases e : i ∈ vs
    · rw [wipe_set e]
    · have ev : i = v := (List.mem_cons.mp h).elim (fun z => z) fun z => absurd z e
      subst ev
      have : ∀ (us : List Nat), i ∉ us → wipe (σ.set i y) us = (wipe σ us).set i y := by
        intro us
        induction us with
        | nil => intro _; rfl
        | cons u us ih =>
          intro hu
          rw [List.mem_cons, not_or] at hu
          unfold wipe
          rw [ih hu.2, List.set_comm _ _ hu.1]
      rw [this vs e, List.set_set]
theorem gok_name (i : Nat) : GOk mg (gName i) (asgN i) [i] := by
  intro E N c env env' st σ H v d Q R r e k
  cases e
  exact k _ (R.set (s := .val d) rfl ⟨v, rfl, r⟩) fun vs h => wipe_set (h i (by simp))
theorem dif_refl {is : List Nat} {σ : L2.St} : Dif is σ σ := fun _ _ => rfl
theorem r_namesD {E : En} {N : Prot} {c : List Addr} {H : Hp} {st : Sto} {Q : L2.St → Hp → Prop} : ∀ {is : List Nat} {ds : List D} {vs : List V} {env env' : Env} {σ : L2.St}, Rel mg E N c env st σ H → RepL mg N c H vs ds → setAll is ds env = some env' → (∀ σ', Rel mg E N c env' st σ' H → Dif is σ σ' → Q σ' H) → gNames is vs σ H Q
  | [], [], _, _, _, σ, R, .nil, e, k => by
    cases e
    exact ⟨rfl, k σ R dif_refl⟩
  | [], _ :: _, _, _, _, _, _, _, e, _ => by cases e
  | _ :: _, [], _, _, _, _, _, _, e, _ => by cases e
  | i :: is, d :: ds, _, env, env', σ, R, .cons h t, e, k => by
    refine ⟨_, _, rfl, ?_⟩
    refine r_namesD (R.set (s := .val d) rfl ⟨_, rfl, h⟩) t e fun σ' R' df => k σ' R' fun vs hv => ?_
    rw [df vs fun j hj => hv j (List.mem_cons_of_mem _ hj)]
    exact wipe_set (hv i List.mem_cons_self)
theorem gok_tup {K : PySem.W.Frag} (is : List Nat) (n : Nat) (hn : n = is.length) : GOk mg (gTup K n (gNames is)) (asgT is) is := by
  intro E N c env env' st σ H v d Q R r e k
  unfold asgT at e
  split at e
  · obtain ⟨a, vs, rfl, ha, rr⟩ := RepT.tup (.inl r)
    exact ⟨a, vs, rfl, SqT.of ha, by rw [rr.length, hn]; exact setAll_len e, r_namesD R rr e k⟩
  · cases e
end

/-! ### for -/
def loopM (chk : Sto → Bool) (asg : D → Env → Option Env) (body : SS) : List D → Env → Sto → Option (Out × Sto)
  | [], env, st => if chk st = true then some (.nx env, st) else none
  | d :: ds, env, st => if chk st = true then (match asg d env with
    | none => none
    | some e1 => match body e1 st with
      | some (.nx e2, s2) => loopM chk asg body ds e2 s2
      | some (.ct e2, s2) => loopM chk asg body ds e2 s2
      | some (.bk e2, s2) => some (.nx e2, s2)
      | some (.rt d, s2) => some (.rt d, s2)
      | none => none) else none
def sFor (fi : Fx Src) (asg : D → Env → Option Env) (body : SS) : SS := fun env st => match fi env st with
  | none => none
  | some (xs, s1) => loopM xs.2 asg body xs.1 env s1
section
variable {mg : Glob} {X : Cx} {tg iter : Expr} {body : List Stmt} {pos : Pos} {fi : Fx Src} {asg : D → Env → Option Env} {fb : SS} {g : TG} {is : List Nat}
theorem r_for (hg : GOk mg g asg is) {De : Ends} {σ : L2.St} {H : Hp} (h : tS mg (sFor fi asg fb) De σ H) : tFor (tI mg fi) g (tS mg fb) De σ H := by
  obtain ⟨E, N, c, env, st, o, st', R, q, p⟩ := tS_def.mp h
  unfold sFor at q
  split at q
  · cases q
  · rename_i src s1 q1
    obtain ⟨xs, chk⟩ := src
    refine ⟨E, N, c, env, st, (xs, chk), s1, R, q1, fun J N1 c1 H1 x1 W1 il => ?_⟩
    have R1 := R.ex x1 W1
    have sx1 := x1.sx R.wd W1
    refine ⟨fun i m σ' H' => m = xs.length - i ∧ i ≤ xs.length ∧ ∃ N' c' env' st2, Sx N1 c1 H1 N' c' H' ∧ Rel mg E N' c' env' st2 σ' H' ∧ loopM chk asg fb (xs.drop i) env' st2 = some (o, st'),
      ⟨xs.length, by omega, Nat.zero_le _, N1, c1, env, s1, Sx.refl, R1, by rw [List.drop_zero]; exact q⟩, ?_⟩
    rintro i m σ' H' ⟨rfl, hi, N', c', env', st2, sx, R', ql⟩
    by_cases hlt : i < xs.length
    · have ed : xs.drop i = xs[i] :: xs.drop (i + 1) := List.drop_eq_getElem_cons hlt
      rw [ed] at ql
      unfold loopM at ql
      split at ql
      · rename_i hck
        refine .inr ⟨il.go i N' c' H' st2 hlt sx R'.wd hck, fun σ3 H3 => ∃ N3 c3 env3 st3, Sx N1 c1 H1 N3 c3 H3 ∧ Rel mg E N3 c3 env3 st3 σ3 H3 ∧ loopM chk asg fb (xs.drop (i + 1)) env3 st3 = some (o, st'), fun σ3 H3 z => ?_, fun x H2 y => ?_⟩
        · exact ⟨xs.length - (i + 1), by omega, rfl, hlt, z⟩
        · obtain ⟨d, hd, x2, W2, r2⟩ := il.yld i N' c' H' st2 x H2 hlt sx R'.wd hck y
          have ed2 : xs[i] = d := by
            obtain ⟨_, e⟩ := List.getElem?_eq_some_iff.mp hd
            exact e
          rw [ed2] at ql
          split at ql
          · cases ql
          · rename_i e1 ha
            have R2 := R'.ex x2 W2
            have sx2 := sx.trans (x2.sx R'.wd W2)
            refine hg E N' c' env' e1 st2 σ' H2 x d _ R2 r2 ha fun σ4 R4 _ => ?_
            split at ql
            · rename_i e2 s2 qb
              exact tS_def.mpr ⟨E, N', c', e1, st2, .nx e2, s2, R4, qb, fun N5 c5 σ5 H5 x5 R5 => ⟨N5, c5, e2, s2, sx2.trans x5, R5, ql⟩⟩
            · rename_i e2 s2 qb
              exact tS_def.mpr ⟨E, N', c', e1, st2, .ct e2, s2, R4, qb, fun N5 c5 σ5 H5 x5 R5 => ⟨N5, c5, e2, s2, sx2.trans x5, R5, ql⟩⟩
            · rename_i e2 s2 qb
              cases ql
              exact tS_def.mpr ⟨E, N', c', e1, st2, .bk e2, _, R4, qb, fun N5 c5 σ5 H5 x5 R5 => p N5 c5 σ5 H5 (sx1.trans (sx2.trans x5)) R5⟩
            · rename_i d2 s2 qb
              cases ql
              exact tS_def.mpr ⟨E, N', c', e1, st2, .rt d2, _, R4, qb, p⟩
            · cases ql
      · cases ql
    · have e : i = xs.length := by omega
      subst e
      rw [List.drop_length] at ql
      unfold loopM at ql
      split at ql
      · rename_i hck
        cases ql
        exact .inl ⟨il.stop N' c' H' _ sx R'.wd hck, p N' c' σ' H' (sx1.trans sx) R'⟩
      · cases ql
theorem s_for (hp : PassesOwn (model X.prog X.w) X.A X.env X.xe) (hc : X.calm = true) (hi : PI X tg iter (tI mg fi)) (hgg : PG X tg g) (hg : GOk mg g asg is) (hb : PSs X body (tS mg fb)) (hs : ∀ x, foldedSetIterable iter X.env x = pure x := by intro _; rfl) :
    PS X (.For tg iter body [] pos) (tS mg (sFor fi asg fb)) := ps_weak (ps_for hp hc hi hgg hb hs) fun De σ H h => r_for hg h
/-- the targets: one name; several -/
theorem t_name {i : Nat} {x : Str} {p1 : Pos} (hN : X.N.Nodup) (hi : X.N[i]? = some x := by rfl) (hx : Loc X.env.scope x := by first | exact Or.inl rfl | exact Or.inr rfl) (hf : X.fn x = true ∨ X.env.scope.names.lookup x = some .local := by first | exact .inl rfl | exact .inr rfl) : PG X (.Name x p1) (gName i) := pg_name hN hi hx hf
theorem t_tup {es : List Expr} {k : Nat} {tpos : Pos} (hc : X.calm = true) (h : PGs X es (gNames is)) {n : Nat} (hn : (assignEach es X.env).length = n := by rfl) (hst : (assignEach es X.env).findIdx? (·.1) = none := by rfl) : PG X (.Tuple es k tpos) (gTup X.K n (gNames is)) := pg_tup hc h hn hst
end

/-! ### sources -/
def iSeq (f : SE) : Fx Src := fun env st => match f env st with
  | some (.lst xs, s1) => some ((xs, noChk), s1)
  | some (.tup xs, s1) => some ((xs, noChk), s1)
  | some (.cell k, s1) => match lstI s1 (.cell k) with
    | some ns => some ((ns.map D.int, fun st => decide (lstI st (.cell k) = some ns)), s1)
    | none => none
  | _ => none
theorem pi_or {X : Cx} {tg it : Expr} {t t' : TI} (h : PI X tg it t) (h' : PI X tg it t') : PI X tg it (fun σ H R => t σ H R ∨ t' σ H R) := ⟨fun pins s σ H R I q => q.elim (h.run pins s σ H R I) (h'.run pins s σ H R I)⟩
section
variable {mg : Glob} {N : Prot} {c : List Addr} {H : Hp} {K : PySem.W.Frag}
theorem il_list {a : Addr} {vs : List V} {xs : List D} (ha : H a = some (.lst vs)) (n : ¬ N a) (r : RepL mg N c H vs xs) : ItL mg (Itl K a) (xs, noChk) N c H where
  stop := fun N' c' H' st sx _ _ => ⟨vs, SqL.of (sx.keep a _ ha n), by rw [r.length]; exact Nat.le_refl _⟩
  go := fun i N' c' H' st hi sx _ _ => by
    obtain ⟨v, hv, _⟩ := r.get (List.getElem?_eq_getElem hi)
    exact ⟨vs, v, SqL.of (sx.keep a _ ha n), hv⟩
  yld := fun i N' c' H' st x H2 hi sx W _ y => by
    obtain ⟨rfl, hy⟩ := y
    obtain ⟨v, hv, rv⟩ := r.get (List.getElem?_eq_getElem hi)
    have e := hy vs (SqL.of (sx.keep a _ ha n))
    rw [hv] at e
    cases e
    exact ⟨xs[i], List.getElem?_eq_getElem hi, Ex.refl, W, rv.tr sx.tr⟩
theorem il_tup {a : Addr} {vs : List V} {xs : List D} (ha : H a = some (.tup vs)) (n : ¬ N a) (r : RepL mg N c H vs xs) : ItL mg (Itt K a) (xs, noChk) N c H where
  stop := fun N' c' H' st sx _ _ => ⟨vs, SqT.of (sx.keep a _ ha n), by rw [r.length]; exact Nat.le_refl _⟩
  go := fun i N' c' H' st hi sx _ _ => by
    obtain ⟨v, hv, _⟩ := r.get (List.getElem?_eq_getElem hi)
    exact ⟨vs, v, SqT.of (sx.keep a _ ha n), hv⟩
  yld := fun i N' c' H' st x H2 hi sx W _ y => by
    obtain ⟨rfl, hy⟩ := y
    obtain ⟨v, hv, rv⟩ := r.get (List.getElem?_eq_getElem hi)
    have e := hy vs (SqT.of (sx.keep a _ ha n))
    rw [hv] at e
    cases e
    exact ⟨xs[i], List.getElem?_eq_getElem hi, Ex.refl, W, rv.tr sx.tr⟩
/-- a cell that holds whole numbers, as long as it holds the same -/
theorem il_cell {k : Nat} {a : Addr} {ns : List Int} (hk : c[k]? = some a) : ItL mg (Itl K a) (ns.map D.int, fun st => decide (lstI st (.cell k) = some ns)) N c H := by
  have look : ∀ N' c' H' (st : Sto), Sx N c H N' c' H' → Wd mg N' c' H' st → decide (lstI st (.cell k) = some ns) = true → H' a = some (.lst (ns.map V.int)) := fun N' c' H' st sx W e => by
    have e : (match st[k]? with | some xs => intsOf xs | none => none) = some ns := of_decide_eq_true e
    cases hs : st[k]? with
    | none => rw [hs] at e; cases e
    | some xs =>
      rw [hs] at e
      obtain ⟨vs, ha, r⟩ := W.sto k a xs (sx.pre k a hk) hs
      rw [intsOf_eq e] at r
      rw [r.of_ints] at ha
      exact ha
  refine ⟨fun N' c' H' st sx W e => ⟨_, SqL.of (look N' c' H' st sx W e), by rw [List.length_map, List.length_map]; exact Nat.le_refl _⟩, fun i N' c' H' st hi sx W e => ?_, fun i N' c' H' st x H2 hi sx W e y => ?_⟩
  · rw [List.length_map] at hi
    exact ⟨_, .int ns[i], SqL.of (look N' c' H' st sx W e), by rw [List.getElem?_map, List.getElem?_eq_getElem hi]; rfl⟩
  · rw [List.length_map] at hi
    obtain ⟨rfl, hy⟩ := y
    have e2 := hy _ (SqL.of (look N' c' _ st sx W e))
    rw [List.getElem?_map, List.getElem?_eq_getElem hi] at e2
    cases e2
    exact ⟨.int ns[i], by rw [List.getElem?_map, List.getElem?_eq_getElem hi]; rfl, Ex.refl, W, .int _⟩
/-- a, a + c, a + 2 c .. -/
def rangeD (a s : Int) (n : Nat) : List D := (List.range n).map fun (i : Nat) => .int (a + (i : Int) * s)
theorem rangeD_len {a s : Int} {n : Nat} : (rangeD a s n).length = n := by
  unfold rangeD
  rw [List.length_map, List.length_range]
theorem rangeD_get {a s : Int} {n i : Nat} (h : i < n) : (rangeD a s n)[i]? = some (.int (a + (i : Int) * s)) := by
  unfold rangeD
  rw [List.getElem?_map, List.getElem?_range h]
  rfl
theorem il_range {lo : Int} {n : Nat} : ItL mg (Itr lo n) (rangeD lo 1 n, noChk) N c H where
  stop := fun N' c' H' st sx _ _ => by show n ≤ (rangeD lo 1 n).length; rw [rangeD_len]; exact Nat.le_refl _
  go := fun i N' c' H' st hi sx _ _ => by
    have hi : i < (rangeD lo 1 n).length := hi
    rw [rangeD_len] at hi; exact hi
  yld := fun i N' c' H' st x H2 hi sx W _ y => by
    have hi : i < (rangeD lo 1 n).length := hi
    obtain ⟨rfl, rfl⟩ := y
    rw [rangeD_len] at hi
    refine ⟨_, rangeD_get hi, Ex.refl, W, ?_⟩
    rw [Int.mul_one]
    exact .int _
theorem il_rangeC {lo s : Int} {n : Nat} : ItL mg (Itc lo s n) (rangeD lo s n, noChk) N c H where
  stop := fun N' c' H' st sx _ _ => by show n ≤ (rangeD lo s n).length; rw [rangeD_len]; exact Nat.le_refl _
  go := fun i N' c' H' st hi sx _ _ => by
    have hi : i < (rangeD lo s n).length := hi
    rw [rangeD_len] at hi; exact hi
  yld := fun i N' c' H' st x H2 hi sx W _ y => by
    have hi : i < (rangeD lo s n).length := hi
    obtain ⟨rfl, rfl⟩ := y
    rw [rangeD_len] at hi
    exact ⟨_, rangeD_get hi, Ex.refl, W, .int _⟩
end
def inR (i : Int) : Bool := decide (-(2 ^ 62) ≤ i) && decide (i < 2 ^ 62)
theorem inR_ok {i : Int} (h : inR i = true) : -(2 ^ 62) ≤ i ∧ i < 2 ^ 62 := by
  unfold inR at h
  rw [Bool.and_eq_true] at h
  exact ⟨of_decide_eq_true h.1, of_decide_eq_true h.2⟩
def iRg1 (f : SA) : Fx Src := fun env st => match f env st with
  | some ([.int j], s1) => if inR j = true then some ((rangeD 0 1 j.toNat, noChk), s1) else none
  | _ => none
def iRg2 (f : SA) : Fx Src := fun env st => match f env st with
  | some ([.int i, .int j], s1) => if inR i = true ∧ inR j = true then some ((rangeD i 1 (j - i).toNat, noChk), s1) else none
  | _ => none
def iRg3 (f : SA) : Fx Src := fun env st => match f env st with
  | some ([.int i, .int j, .int k], s1) => if (k ≠ 0 ∧ k.natAbs < 1073741824) ∧ Builtin.Range.small i j k = true ∧ Builtin.Range.rangeSize i j k = ((Builtin.Range.rangeSize i j k).toNat : Int) then some ((rangeD i k (Builtin.Range.rangeSize i j k).toNat, noChk), s1) else none
  | _ => none
section
variable {mg : Glob} {X : Cx} {tg e : Expr} {fe : SE} {f : SA}
theorem i_seq (h : PE X e (tE mg fe)) (hK : X.K = mg.K := by rfl) : PI X tg e (tI mg (iSeq fe)) := pi_weak (pi_or (pi_list h) (pi_tup h)) fun σ H R' ⟨E, N, c, env, st, xs, st', R, q, k⟩ => by
  unfold iSeq at q
  split at q
  · rename_i ys s1 q1
    cases q
    refine .inl ⟨E, N, c, env, st, _, _, R, q1, fun v N1 c1 H1 x1 W1 r1 => ?_⟩
    cases r1 with
    | lst ha n r => exact ⟨_, rfl, ⟨_, SqL.of ha⟩, k _ N1 c1 H1 x1 W1 (il_list ha n r)⟩
  · rename_i ys s1 q1
    cases q
    refine .inr ⟨E, N, c, env, st, _, _, R, q1, fun v N1 c1 H1 x1 W1 r1 => ?_⟩
    cases r1 with
    | tup ha n r => exact ⟨_, rfl, ⟨_, SqT.of ha⟩, k _ N1 c1 H1 x1 W1 (il_tup ha n r)⟩
  · rename_i kk s1 q1
    split at q
    · rename_i ns hn
      cases q
      refine .inl ⟨E, N, c, env, st, _, _, R, q1, fun v N1 c1 H1 x1 W1 r1 => ?_⟩
      obtain ⟨a, rfl, ha⟩ := RepT.ints W1 (.inl r1) hn
      cases r1 with
      | cell hk => exact ⟨a, rfl, ⟨_, hK ▸ ha⟩, k _ N1 c1 H1 x1 W1 (il_cell hk)⟩
    · cases q
  · cases q
theorem tl1' {N : Prot} {c : List Addr} {H : Hp} {us : List V} {i : Int} (h : RepTL mg N c H us [.int i]) : us = [.int i] := by
  obtain ⟨u, rfl, z⟩ := tl1 h
  rw [z.int]
theorem i_rg1 {a : Expr} {p pos : Pos} (hm : X.mg "range" = none) (ha : PA X [a] (tAP mg f)) (hg : Gl X "range" := by rfl) (hs : starEach [a] X.env = [(false, eval a X.env)] := by rfl) : PI X tg (.Call (.Name "range" p) [a] [] pos) (tI mg (iRg1 f)) := pi_weak (pi_range1 hg hm ha hs) fun σ H R' ⟨E, N, c, env, st, xs, st', R, q, k⟩ => by
  unfold iRg1 at q
  split at q
  · rename_i j s1 q1
    split at q
    · rename_i hr
      cases q
      refine ⟨E, N, c, env, st, _, _, R, q1, fun vs N1 c1 H1 x1 W1 r1 => ?_⟩
      obtain ⟨h1, h2⟩ := inR_ok hr
      exact ⟨j, tl1' r1, h1, h2, k _ N1 c1 H1 x1 W1 il_range⟩
    · cases q
  · cases q
theorem i_rg2 {a b : Expr} {p pos : Pos} (hm : X.mg "range" = none) (ha : PA X [a, b] (tAP mg f)) (hg : Gl X "range" := by rfl) (hs : starEach [a, b] X.env = [(false, eval a X.env), (false, eval b X.env)] := by rfl) (hs2 : starEach [b] X.env = [(false, eval b X.env)] := by rfl) :
    PI X tg (.Call (.Name "range" p) [a, b] [] pos) (tI mg (iRg2 f)) := pi_weak (pi_range2 hg hm ha hs hs2) fun σ H R' ⟨E, N, c, env, st, xs, st', R, q, k⟩ => by
  unfold iRg2 at q
  split at q
  · rename_i i j s1 q1
    split at q
    · rename_i hr
      cases q
      refine ⟨E, N, c, env, st, _, _, R, q1, fun vs N1 c1 H1 x1 W1 r1 => ?_⟩
      obtain ⟨h1, h2⟩ := inR_ok hr.1
      obtain ⟨h3, h4⟩ := inR_ok hr.2
      obtain ⟨u, u', rfl, z, z'⟩ := tl2 r1
      exact ⟨i, j, by rw [z.int, z'.int], ⟨h1, h2, h3, h4⟩, k _ N1 c1 H1 x1 W1 il_range⟩
    · cases q
  · cases q
theorem i_rg3 {a b d : Expr} {p pos : Pos} (hm : X.mg "range" = none) (ha : PA X [a, b, d] (tAP mg f)) (hg : Gl X "range" := by rfl) (hs : starEach [a, b, d] X.env = (false, eval a X.env) :: starEach [b, d] X.env := by rfl) (hpl : (backTo pos (starEach [b, d] X.env)).any (·.1) = false := by rfl) :
    PI X tg (.Call (.Name "range" p) [a, b, d] [] pos) (tI mg (iRg3 f)) := pi_weak (pi_range3 hg hm ha hs hpl) fun σ H R' ⟨E, N, c, env, st, xs, st', R, q, k⟩ => by
  unfold iRg3 at q
  split at q
  · rename_i i j kk s1 q1
    split at q
    · rename_i hr
      cases q
      refine ⟨E, N, c, env, st, _, _, R, q1, fun vs N1 c1 H1 x1 W1 r1 => ?_⟩
      obtain ⟨⟨h1, h2⟩, h3, h4⟩ := hr
      cases r1 with
      | cons z t =>
        obtain ⟨u, u', rfl, z', z''⟩ := tl2 t
        exact ⟨i, j, kk, _, by rw [z.int, z'.int, z''.int], ⟨h1, h2, h3, h4⟩, k _ N1 c1 H1 x1 W1 il_rangeC⟩
    · cases q
  · cases q
end

/-! ### list comprehensions -/
def wipeE (env : Env) : List Nat → Env
  | [] => env
  | v :: vs => (wipeE env vs).set v .un
def compM (chk : Sto → Bool) (asg : D → Env → Option Env) (cond : SB) (elt : SE) (env0 : Env) : List D → Sto → Option (List D × Sto)
  | [], st => if chk st = true then some ([], st) else none
  | d :: ds, st => if chk st = true then (match asg d env0 with
    | none => none
    | some e1 => match cond e1 st with
      | none => none
      | some (false, s1) => compM chk asg cond elt env0 ds s1
      | some (true, s1) => match elt e1 s1 with
        | none => none
        | some (y, s2) => match compM chk asg cond elt env0 ds s2 with
          | none => none
          | some (ys, s3) => some (y :: ys, s3)) else none
def lComp (fi : Fx Src) (asg : D → Env → Option Env) (cond : SB) (elt : SE) (vs : List Nat) : Fx (List D) := fun env st => match fi env st with
  | none => none
  | some (xs, s1) => if xs.1.length ≤ 1000000 then compM xs.2 asg cond elt (wipeE env vs) xs.1 s1 else none
def bYes : SB := fun _ st => some (true, st)
section
variable {mg : Glob}
theorem Rel.wipe {E : En} {N : Prot} {c : List Addr} {env : Env} {st : Sto} {σ : L2.St} {H : Hp} (R : Rel mg E N c env st σ H) : ∀ (vs : List Nat), Rel mg E N c (wipeE env vs) st (L2.wipe σ vs) H
  | [] => R
  | v :: vs => by
    have R0 := Rel.wipe R vs
    unfold wipeE L2.wipe
    refine ⟨by rw [List.length_set, List.length_set]; exact R0.len, fun j s' e => ?_, fun j s' a e ho es => ?_, fun j k s1 s2 a e1 o1 e2 o2 h1 h2 => ?_, R0.wd, R0.n0, R0.t0, R0.base, R0.pre, R0.newc, fun j cn ns ds b e es => ?_⟩
    · rcases get_set e with ⟨rfl, rfl⟩ | ⟨ne, e⟩
      · trivial
      · rw [List.getElem?_set_ne ne]
        exact R0.sl j s' e
    · rcases get_set e with ⟨rfl, rfl⟩ | ⟨ne, e⟩
      · cases ho
      · rw [List.getElem?_set_ne ne] at es
        exact R0.own j s' a e ho es
    · rcases get_set e1 with ⟨rfl, rfl⟩ | ⟨n1, e1⟩
      · cases o1
      · rcases get_set e2 with ⟨rfl, rfl⟩ | ⟨n2, e2⟩
        · cases o2
        · rw [List.getElem?_set_ne n1] at h1
          rw [List.getElem?_set_ne n2] at h2
          exact R0.inj j k s1 s2 a e1 o1 e2 o2 h1 h2
    · rcases get_set e with ⟨rfl, e2⟩ | ⟨ne, e⟩
      · cases e2
      · rw [List.getElem?_set_ne ne] at es
        exact R0.slf j cn ns ds b e es
/-- a protected list that nobody else holds grows -/
theorem Rel.grow {E : En} {N : Prot} {c : List Addr} {env : Env} {st : Sto} {σ : L2.St} {H : Hp} {p : Addr} {us : List V} (R : Rel mg E N c env st σ H) (np : N p) (nc : p ∉ c) (h0 : E.H0 p = none) (hp : H p ≠ none) (nw : ∀ (j : Nat) s, env[j]? = some s → s.isOwn = true → σ[j]? ≠ some (some (.ref p))) :
    Rel mg E N c env st σ (upd H p (.lst us)) ∧ Sx N c H N c (upd H p (.lst us)) := by
  have keep : ∀ b o, H b = some o → ¬ N b → (upd H p (.lst us)) b = some o := fun b o e n => by
    rw [upd_ne (show b ≠ p from fun z => n (z ▸ np))]; exact e
  have tk : ∀ b, (upd H p (.lst us)) b = none → H b = none := fun b e => by
    by_cases q : b = p
    · rw [q, upd_same] at e; cases e
    · rw [upd_ne q] at e; exact e
  have sx : Sx N c H N c (upd H p (.lst us)) := ⟨keep, fun _ z => .inl z, fun _ _ z => z, fun _ z => .inl z, tk⟩
  refine ⟨⟨R.len, fun j s' e => ?_, R.own, R.inj, ?_, R.n0, R.t0, fun b o e n => ?_, R.pre, R.newc, R.slf⟩, sx⟩
  · have q := R.sl j s' e
    cases s' with
    | un => trivial
    | val d => obtain ⟨v, ev, rv⟩ := q; exact ⟨v, ev, rv.tr sx.tr⟩
    | own ys =>
      obtain ⟨b, us', ev, hb', rv⟩ := q
      have : b ≠ p := fun z => nw j _ e rfl (by rw [← z]; exact join_some ev)
      exact ⟨b, us', ev, by rw [upd_ne this]; exact hb', rv.tr sx.tr⟩
    | ownI cn ns ds =>
      obtain ⟨b, C, dx, fs, ev, hc, hb', hn, rv⟩ := q
      have : b ≠ p := fun z => nw j _ e rfl (by rw [← z]; exact join_some ev)
      exact ⟨b, C, dx, fs, ev, hc, by rw [upd_ne this]; exact hb', hn, rv.tr sx.tr⟩
    | ownD ks ds =>
      obtain ⟨b, kvs, ev, hb', hn, rv⟩ := q
      have : b ≠ p := fun z => nw j _ e rfl (by rw [← z]; exact join_some ev)
      exact ⟨b, kvs, ev, by rw [upd_ne this]; exact hb', hn, rv.tr sx.tr⟩
  · exact ⟨R.wd.len, fun k b ys h1 h2 => by
      obtain ⟨us', hb', rr⟩ := R.wd.sto k b ys h1 h2
      exact ⟨us', by rw [upd_ne (show b ≠ p from fun z => nc (z ▸ List.mem_of_getElem? h1))]; exact hb', rr.tr sx.tr⟩, R.wd.cn, R.wd.nd, fun b z e => R.wd.trk b z (tk b e)⟩
  · have : b ≠ p := fun z => by rw [z, h0] at e; cases e
    rw [upd_ne this]
    exact R.base b o e n
theorem wipe_none : ∀ {vs : List Nat} {σ : L2.St} {i : Nat}, i ∈ vs → (L2.wipe σ vs).set i none = L2.wipe σ vs
  | [], _, _, h => by cases h
  | v :: vs, σ, i, h => by
    unfold L2.wipe
    by_cases e : i = v
    · subst e
      rw [List.set_set]
    · have hi : i ∈ vs := (List.mem_cons.mp h).elim (fun z => absurd z e) fun z => z
      rw [List.set_comm _ _ (Ne.symm e), wipe_none hi]
theorem wipe_idem : ∀ {vs us : List Nat} {σ : L2.St}, (∀ i ∈ us, i ∈ vs) → L2.wipe (L2.wipe σ vs) us = L2.wipe σ vs
  | _, [], _, _ => rfl
  | vs, u :: us, σ, h => by
    show (L2.wipe (L2.wipe σ vs) us).set u none = _
    rw [wipe_idem fun i hi => h i (List.mem_cons_of_mem _ hi)]
    exact wipe_none (h u List.mem_cons_self)
variable {fi : Fx Src} {asg : D → Env → Option Env} {cond : SB} {elt : SE} {g : TG} {is vs : List Nat}
theorem r_lc (hg : GOk mg g asg is) (hv : ∀ i ∈ is, i ∈ vs) {σ : L2.St} {H : Hp} {Q : VK} (h : tL mg (lComp fi asg cond elt vs) σ H Q) : tLc (tI mg fi) g (tT mg cond) (tE mg elt) vs σ H Q := by
  obtain ⟨E, N, c, env, st, d, st', R, q, k⟩ := h
  unfold lComp at q
  split at q
  · cases q
  · rename_i src s1 q1
    obtain ⟨xs, chk⟩ := src
    split at q
    · rename_i hl
      have hl : xs.length ≤ 1000000 := hl
      refine ⟨E, N, c, env, st, (xs, chk), s1, R, q1, fun J N1 c1 H1 x1 W1 il => fun p hp => ?_⟩
      have R1 := R.ex x1 W1
      have x2 := Ex.laidN (o := .lst []) W1 hp
      have W2 := W1.laidN (o := .lst []) hp
      have h0 : E.H0 p = none := R1.fresh0 hp
      have hpH : H p = none := x1.free R.wd W1 hp
      have nw := (R1.wipe vs).notOwn hp
      refine ⟨fun i m H' => m = xs.length - i ∧ i ≤ xs.length ∧ ∃ N' c' st2 accD accV ys, Ex N c H N' c' H' ∧ Sx N1 c1 H1 N' c' H' ∧ Rel mg E N' c' (wipeE env vs) st2 (L2.wipe σ vs) H' ∧ N' p ∧ p ∉ c' ∧ H' p = some (.lst accV) ∧ RepL mg N' c' H' accV accD ∧ accD.length ≤ i ∧
        compM chk asg cond elt (wipeE env vs) (xs.drop i) st2 = some (ys, st') ∧ accD ++ ys = d,
        ⟨xs.length, by omega, Nat.zero_le _, _, c1, s1, [], [], d, x1.trans x2 R.wd, x2.sx W1 W2, (R1.ex x2 W2).wipe vs, .inr rfl, W1.cnone hp, upd_same, .nil, Nat.zero_le _, by rw [List.drop_zero]; exact q, rfl⟩, ?_⟩
      rintro i m H' ⟨rfl, hi, N', c', st2, accD, accV, ys, ex, sx, R', np, nc, hpv, ra, la, ql, ed⟩
      by_cases hlt : i < xs.length
      · have ed0 : xs.drop i = xs[i] :: xs.drop (i + 1) := List.drop_eq_getElem_cons hlt
        rw [ed0] at ql
        unfold compM at ql
        split at ql
        · rename_i hck
          refine .inr ⟨il.go i N' c' H' st2 hlt sx R'.wd hck, fun H3 => ∃ N' c' st2 accD accV ys, Ex N c H N' c' H3 ∧ Sx N1 c1 H1 N' c' H3 ∧ Rel mg E N' c' (wipeE env vs) st2 (L2.wipe σ vs) H3 ∧ N' p ∧ p ∉ c' ∧ H3 p = some (.lst accV) ∧ RepL mg N' c' H3 accV accD ∧ accD.length ≤ i + 1 ∧
            compM chk asg cond elt (wipeE env vs) (xs.drop (i + 1)) st2 = some (ys, st') ∧ accD ++ ys = d, fun H3 z => ⟨xs.length - (i + 1), by omega, rfl, hlt, z⟩, fun x H2 y => ?_⟩
          obtain ⟨d0, hd0, x3, W3, r3⟩ := il.yld i N' c' H' st2 x H2 hlt sx R'.wd hck y
          have ed2 : xs[i] = d0 := by
            obtain ⟨_, e⟩ := List.getElem?_eq_some_iff.mp hd0
            exact e
          rw [ed2] at ql
          split at ql
          · cases ql
          · rename_i e1 ha
            have R3 := R'.ex x3 W3
            refine hg E N' c' _ e1 st2 _ H2 x d0 _ R3 r3 ha fun σ4 R4 df => ⟨by rw [df vs hv]; exact wipe_idem fun _ z => z, ?_⟩
            split at ql
            · cases ql
            · rename_i sA qc
              refine ⟨E, N', c', e1, st2, false, sA, R4, qc, fun N5 c5 H5 x5 W5 => iteF ?_⟩
              have x35 := x3.trans x5 R'.wd
              exact ⟨N5, c5, sA, accD, accV, ys, ex.trans x35 R.wd, sx.trans (x35.sx R'.wd W5), R3.ex x5 W5, x5.mono p np, x35.nc R'.wd hpv nc, x35.keep p _ hpv nc, ra.tr (x35.tr R'.wd), Nat.le_succ_of_le la, ql, ed⟩
            · rename_i sA qc
              split at ql
              · cases ql
              · rename_i y1 sB qe
                split at ql
                · cases ql
                · rename_i ys1 s3 qr
                  cases ql
                  refine ⟨E, N', c', e1, st2, true, sA, R4, qc, fun N5 c5 H5 x5 W5 => iteT ?_⟩
                  refine ⟨E, N5, c5, e1, sA, y1, sB, R4.ex x5 W5, qe, fun w N6 c6 H6 x6 W6 r6 => ?_⟩
                  have x36 := (x3.trans x5 R'.wd).trans x6 R'.wd
                  have hp6 := x36.keep p _ hpv nc
                  have nc6 := x36.nc R'.wd hpv nc
                  have np6 := x36.mono p np
                  have ra6 := ra.tr (x36.tr R'.wd)
                  have ln := ra6.length
                  refine ⟨accV, hp6, sz7 (by omega), ?_⟩
                  have R6 : Rel mg E N6 c6 (wipeE env vs) sB (L2.wipe σ vs) H6 := R'.ex x36 W6
                  obtain ⟨Rg, sg⟩ := R6.grow (us := accV ++ [w]) np6 nc6 h0 (by rw [hp6]; simp) nw
                  have exT := ex.trans x36 R.wd
                  refine ⟨N6, c6, sB, accD ++ [y1], accV ++ [w], ys1, ⟨fun a o e n => ?_, exT.new, exT.mono, exT.pre, exT.newc⟩, (sx.trans (x36.sx R'.wd W6)).trans sg, Rg, np6, nc6, upd_same, (ra6.append (.cons r6 .nil)).tr sg.tr, by rw [List.length_append]; show accD.length + 1 ≤ i + 1; omega, qr, by rw [List.append_assoc]; exact ed⟩
                  rw [upd_ne (ne_of_none e hpH)]
                  exact exT.keep a o e n
        · cases ql
      · have e : i = xs.length := by omega
        subst e
        rw [List.drop_length] at ql
        unfold compM at ql
        split at ql
        · rename_i hck
          cases ql
          rw [List.append_nil] at ed
          subst ed
          exact .inl ⟨il.stop N' c' H' _ sx R'.wd hck, k _ N' c' H' ex R'.wd ⟨p, accV, rfl, hpH, np, nc, hpv, ra⟩⟩
        · cases ql
    · cases q
variable {X : Cx} {eltE tg iter : Expr} {ifs : List Expr} {scope : Scope} {own : List (Str × Nat)} {pos : Pos}
theorem pts_nilT : PTs X [] (tT mg bYes) := ⟨fun pins s σ H Q I h => (pts_nil (X := X)).run pins s σ H Q I (by
  obtain ⟨E, N, c, env, st, b, st', R, q, k⟩ := h
  cases q
  exact k N c H Ex.refl R.wd)⟩
theorem pts_oneT {c : Expr} {t : SB} (h : PT X c (tT mg t)) : PTs X [c] (tT mg t) := pts_one h
/-- [elt for target in iter if ..] -/
theorem d_lc (hc : X.calm = true) (hN : X.N.Nodup) (hi : PI X tg iter (tI mg fi)) (ok : BlkOk X.N X.env.scope scope own)
    (hgg : ∀ (s : Shared) (H : Hp) (C : Addr) (cl : List (Str × Addr)) (fp : List Addr), PG (X.blk s H scope (compEnvC scope cl C X.env) fp) tg g) (hg : GOk mg g asg is) (hv : ∀ i ∈ is, i ∈ own.map (·.2))
    (ht : ∀ (s : Shared) (H : Hp) (C : Addr) (cl : List (Str × Addr)) (fp : List Addr), PTs (X.blk s H scope (compEnvC scope cl C X.env) fp) ifs (tT mg cond))
    (he : ∀ (s : Shared) (H : Hp) (C : Addr) (cl : List (Str × Addr)) (fp : List Addr), PE (X.blk s H scope (compEnvC scope cl C X.env) fp) eltE (tE mg elt)) (hs : ∀ x, foldedSetIterable iter X.env x = pure x := by intro _; rfl) :
    PE X (.ListComp eltE [⟨tg, iter, ifs, 0⟩] scope pos) (tL mg (lComp fi asg cond elt (own.map (·.2)))) :=
  pe_weak (pe_lc hc hN hi ok hgg ht he hs) fun _ _ _ h => r_lc hg hv h
/-- name = [..] on one line: as a list of the frame's own; as data -/
theorem s_lcOwn {i : Nat} {y : Str} {py spos : Pos} (hc : X.calm = true) (hN : X.N.Nodup) (hy : X.N[i]? = some y) (hyl : X.env.scope.names.lookup y = some .local)
    (hsw : swapsWith (.ListComp eltE [⟨tg, iter, ifs, 0⟩] scope pos) (some (.Name y py)) spos.line X.env = pure true) (hi : PI X tg iter (tI mg fi)) (ok : BlkOk X.N X.env.scope scope own)
    (hgg : ∀ (s : Shared) (H : Hp) (C : Addr) (cl : List (Str × Addr)) (fp : List Addr), PG (X.blk s H scope (compEnvC scope cl C X.env) fp) tg g) (hg : GOk mg g asg is) (hv : ∀ i ∈ is, i ∈ own.map (·.2))
    (ht : ∀ (s : Shared) (H : Hp) (C : Addr) (cl : List (Str × Addr)) (fp : List Addr), PTs (X.blk s H scope (compEnvC scope cl C X.env) fp) ifs (tT mg cond))
    (he : ∀ (s : Shared) (H : Hp) (C : Addr) (cl : List (Str × Addr)) (fp : List Addr), PE (X.blk s H scope (compEnvC scope cl C X.env) fp) eltE (tE mg elt)) (hs : ∀ x, foldedSetIterable iter X.env x = pure x := by intro _; rfl) :
    PS X (.Assign [.Name y py] (.ListComp eltE [⟨tg, iter, ifs, 0⟩] scope pos) spos) (tS mg (sOwn i (lComp fi asg cond elt (own.map (·.2))))) :=
  ps_weak (ps_setLc hc hN hy hyl hsw hi ok hgg ht he hs) fun De σ H h => by
    have h2 : tAsg (tL mg (lComp fi asg cond elt (own.map (·.2)))) (gName i) De σ H := r_own h
    exact r_lc (Q := fun x H1 => gName i x σ H1 De.nx) hg hv h2
theorem s_lc {i : Nat} {y : Str} {py spos : Pos} (hc : X.calm = true) (hN : X.N.Nodup) (hy : X.N[i]? = some y) (hyl : X.env.scope.names.lookup y = some .local)
    (hsw : swapsWith (.ListComp eltE [⟨tg, iter, ifs, 0⟩] scope pos) (some (.Name y py)) spos.line X.env = pure true) (hi : PI X tg iter (tI mg fi)) (ok : BlkOk X.N X.env.scope scope own)
    (hgg : ∀ (s : Shared) (H : Hp) (C : Addr) (cl : List (Str × Addr)) (fp : List Addr), PG (X.blk s H scope (compEnvC scope cl C X.env) fp) tg g) (hg : GOk mg g asg is) (hv : ∀ i ∈ is, i ∈ own.map (·.2))
    (ht : ∀ (s : Shared) (H : Hp) (C : Addr) (cl : List (Str × Addr)) (fp : List Addr), PTs (X.blk s H scope (compEnvC scope cl C X.env) fp) ifs (tT mg cond))
    (he : ∀ (s : Shared) (H : Hp) (C : Addr) (cl : List (Str × Addr)) (fp : List Addr), PE (X.blk s H scope (compEnvC scope cl C X.env) fp) eltE (tE mg elt)) (hs : ∀ x, foldedSetIterable iter X.env x = pure x := by intro _; rfl) :
    PS X (.Assign [.Name y py] (.ListComp eltE [⟨tg, iter, ifs, 0⟩] scope pos) spos) (tS mg (sSet i (eL (lComp fi asg cond elt (own.map (·.2)))))) :=
  ps_weak (ps_setLc hc hN hy hyl hsw hi ok hgg ht he hs) fun De σ H h => by
    obtain ⟨E, N, c, env, st, o, st', R, q, p⟩ := tS_def.mp h
    refine r_lc (Q := fun x H1 => gName i x σ H1 De.nx) hg hv ?_
    unfold sSet eL at q
    cases qf : lComp fi asg cond elt (own.map (·.2)) env st with
    | none => rw [qf] at q; cases q
    | some z =>
      obtain ⟨xs, s1⟩ := z
      rw [qf] at q
      cases q
      refine ⟨E, N, c, env, st, xs, _, R, qf, fun v N' c' H' x W r => ?_⟩
      obtain ⟨N'', x2, W2, r2⟩ := r.give R.wd x W
      exact p N'' c' _ H' (x2.sx R.wd W2) ((R.ex x2 W2).set (s := .val _) rfl ⟨v, rfl, r2⟩)
end
end LW

/-! LwK: bodies of defs; cells handed back; fields of a new instance; two names at once. -/
namespace LW
open PySem L2 PyProof.Rows

/-! ### a def by its body -/
def env0 (m : Nat) (ds : List D) : Env := ds.map Sl.val ++ List.replicate (m - ds.length) .un
def fnM (n m : Nat) (body : SS) : FM := fun ds st => if ds.length = n then (match body (env0 m ds) st with
  | some (.rt d, s1) => some (d, s1)
  | some (.nx _, s1) => some (.non, s1)
  | _ => none) else none
theorem fnM_ar {n m : Nat} {body : SS} : Ar n (fnM n m body) := fun ds st r h => by
  unfold fnM at h
  split at h
  · rename_i e; exact e
  · cases h
section
variable {mg : Glob}
theorem rel0 {N : Prot} {c : List Addr} {H : Hp} {st : Sto} {nm : List Str} {vs : List V} {ds : List D} (W : Wd mg N c H st) (r : RepL mg N c H vs ds) : Rel mg ⟨H, N, c, none⟩ N c (env0 nm.length ds) st (L2.start nm vs) H where
  len := by
    unfold L2.start env0
    rw [List.length_append, List.length_append, List.length_map, List.length_map, List.length_replicate, List.length_replicate, r.length]
  sl := fun i s e => by
    unfold env0 at e
    by_cases hi : i < ds.length
    · rw [List.getElem?_append_left (by simpa using hi), List.getElem?_map, List.getElem?_eq_getElem hi] at e
      cases e
      obtain ⟨v, hv, rv⟩ := r.get (List.getElem?_eq_getElem hi)
      refine ⟨v, ?_, rv⟩
      unfold L2.start
      rw [List.getElem?_append_left (by rw [List.length_map, r.length]; exact hi), List.getElem?_map, hv]
      rfl
    · rw [List.getElem?_append_right (by simpa using hi), List.getElem?_replicate] at e
      split at e
      · cases e; trivial
      · cases e
  own := fun i s a e ho _ => by
    unfold env0 at e
    by_cases hi : i < ds.length
    · rw [List.getElem?_append_left (by simpa using hi), List.getElem?_map, List.getElem?_eq_getElem hi] at e
      cases e; cases ho
    · rw [List.getElem?_append_right (by simpa using hi), List.getElem?_replicate] at e
      split at e
      · cases e; cases ho
      · cases e
  inj := fun i j s s' a e ho _ _ _ _ => by
    unfold env0 at e
    by_cases hi : i < ds.length
    · rw [List.getElem?_append_left (by simpa using hi), List.getElem?_map, List.getElem?_eq_getElem hi] at e
      cases e; cases ho
    · rw [List.getElem?_append_right (by simpa using hi), List.getElem?_replicate] at e
      split at e
      · cases e; cases ho
      · cases e
  wd := W
  n0 := fun _ h => h
  t0 := fun a h => W.trk a h
  base := fun _ _ h _ => h
  pre := fun _ _ h => h
  newc := fun _ h => .inl h
  slf := fun i cn ns dd a e _ => by
    unfold env0 at e
    by_cases hi : i < ds.length
    · rw [List.getElem?_append_left (by simpa using hi), List.getElem?_map, List.getElem?_eq_getElem hi] at e
      cases e
    · rw [List.getElem?_append_right (by simpa using hi), List.getElem?_replicate] at e
      split at e
      · cases e
      · cases e
theorem Fin.ex {N : Prot} {c c' : List Addr} {H H' : Hp} {st st' : Sto} {v : V} {d : D} (W : Wd mg N c H st) (f : Fin mg ⟨H, N, c, none⟩ c' st' H' v d) : Ex N c H (fun a => N a ∨ a ∈ c') c' H' where
  keep := fun a o h n => by
    by_cases q : a ∈ c'
    · rcases f.newc a q with z | z
      · exact absurd z n
      · exact absurd (h.symm.trans z) (by simp)
    · exact f.base a o h q
  new := fun a z => z.elim .inl fun q => (f.newc a q).elim (fun w => .inl (W.cn a w)) .inr
  mono := fun _ h => .inl h
  pre := f.pre
  newc := f.newc
end
section
variable {P : Program} {w : World} {K : PySem.W.Frag} {mg : Str → Option Value} {base : Heap}
/-- THE RULE for a def: it reckons what its body reckons -/
theorem fn_M {x qual : Str} {st : Stmt} {f : Addr} {fd : FuncData} {nm ps : List Str} {k : Nat} {body : SS} (F : Fun K x qual st f fd) (S : FnScope nm ps (defScope st))
    (hbody : ∀ (cdv : Value) (A : Around) (outer : List PySem.Env) (s : Shared) (H : Hp) (E : XK), Room k (A.deeper (envOfC qual (defScope st) s.heap.objs.size f cdv)) →
      PSs (cxOf CX0 P w K mg base nm qual (defScope st) f cdv A outer s H E).nox (defBody st) (tS ⟨mg, K⟩ body)) :
    FnOk P w K mg base CX0 (k + 1) f fd ps (spM ⟨mg, K⟩ (fnM ps.length nm.length body) ps.length) := by
  refine F.ok S (fun vs H Q E h => h.1) fun cdv A outer s H vs Q E hr h => ⟨_, hbody cdv A outer s H E hr, ?_⟩
  obtain ⟨_, N, c, ds, st0, d, st', W, r, q, kk⟩ := h
  unfold fnM at q
  split at q
  · rename_i hl
    have R := rel0 (nm := nm) W r
    split at q
    · rename_i d1 s1 q1
      cases q
      exact tS_def.mpr ⟨_, N, c, _, st0, _, _, R, q1, fun c' H' v fn => kk v _ c' H' (fn.ex W) fn.wd fn.rep⟩
    · rename_i e1 s1 q1
      cases q
      exact tS_def.mpr ⟨_, N, c, _, st0, _, _, R, q1, fun N' c' σ' H' sx R' => kk .non _ c' H' ((R'.fin .non).ex W) (R'.fin .non).wd (.non)⟩
    · cases q
  · cases q
end

/-! ### a new list handed back as a cell -/
def sRetC (f : Fx (List D)) : SS := fun env st => match f env st with
  | some (xs, s1) => some (.rt (.cell s1.length), s1 ++ [xs])
  | none => none
section
variable {mg : Glob} {E : En} {N : Prot} {c : List Addr} {H : Hp} {st : Sto} {env : Env} {σ : L2.St} {p : Addr} {vs : List V} {xs : List D}
theorem Rel.finC (R : Rel mg E N c env st σ H) (hp : H p = some (.lst vs)) (np : N p) (nc : p ∉ c) (h0 : E.H0 p = none) (r : RepL mg N c H vs xs) : Fin mg E (c ++ [p]) (st ++ [xs]) H (.ref p) (.cell st.length) := by
  have less : ∀ a, (E.N0 a ∨ a ∈ c ++ [p]) → N a := fun a z => z.elim (R.n0 a) fun q => (List.mem_append.mp q).elim (R.wd.cn a) fun q => by
    have e : a = p := by simpa using q
    rw [e]; exact np
  have tr : Tr N c H (fun a => E.N0 a ∨ a ∈ c ++ [p]) (c ++ [p]) H := ⟨fun _ _ e _ => e, fun a z => .inl (less a z), fun k a e => by rw [List.getElem?_append_left (List.getElem?_eq_some_iff.mp e).1]; exact e⟩
  have hl := R.wd.len
  refine ⟨⟨by rw [List.length_append, List.length_append, hl]; rfl, fun k a ys h1 h2 => ?_, fun a z => .inr z, ?_, fun a z => R.wd.trk a (less a z)⟩, .cell (by rw [← hl, List.getElem?_append_right (Nat.le_refl _)]; simp), fun a o e n => R.base a o e fun z => n (List.mem_append_left _ z), fun k a e => tr.pre k a (R.pre k a e), fun a z => ?_⟩
  · by_cases hk : k < c.length
    · rw [List.getElem?_append_left hk] at h1
      rw [List.getElem?_append_left (by omega)] at h2
      obtain ⟨us, ha, rr⟩ := R.wd.sto k a ys h1 h2
      exact ⟨us, ha, rr.tr tr⟩
    · rw [List.getElem?_append_right (by omega)] at h1 h2
      by_cases e : k - c.length = 0
      · rw [e] at h1
        rw [← hl, e] at h2
        cases h1
        cases h2
        exact ⟨vs, hp, r.tr tr⟩
      · rw [List.getElem?_eq_none (by simp; omega)] at h1
        cases h1
  · exact List.nodup_append.mpr ⟨R.wd.nd, by simp, fun a ha b hb => by
      have e : b = p := by simpa using hb
      rw [e]
      exact fun z => nc (z ▸ ha)⟩
  · rcases List.mem_append.mp z with z | z
    · exact R.newc a z
    · have e : a = p := by simpa using z
      rw [e]; exact .inr h0
end
section
variable {mg : Glob} {X : Cx} {e : Expr} {pos : Pos} {fl : Fx (List D)}
theorem s_retC (he : PE X e (tL mg fl)) : PS X (.Return (some e) pos) (tS mg (sRetC fl)) := ps_weak (ps_ret he) fun De σ H h => by
  obtain ⟨E, N, c, env, st, o, st', R, q, p⟩ := tS_def.mp h
  unfold sRetC at q
  split at q
  · rename_i xs s1 q1
    cases q
    refine ⟨E, N, c, env, st, xs, s1, R, q1, fun v N' c' H' x W r => ?_⟩
    obtain ⟨a, vs, rfl, hn, na, nc, ha, rr⟩ := r
    exact p _ _ _ ((R.ex x W).finC ha na nc (R.fresh0 hn) rr)
  · cases q
/-- return x, x a list of the frame's own, as a cell -/
def sRetO (i : Nat) : SS := fun env st => match env[i]? with
  | some (.own xs) => some (.rt (.cell st.length), st ++ [xs])
  | _ => none
theorem s_retO {i : Nat} {x : Str} {p1 : Pos} (hN : X.N[i]? = some x := by rfl) (hv : Vis X.env.scope x := by first | exact Or.inl rfl | exact Or.inr (Or.inl rfl) | exact Or.inr (Or.inr rfl)) (hd : (x == ("__debug__" : Str)) = false := by decide)
    (hcd : (x == ("__classdict__" : Str)) = false := by decide) : PS X (.Return (some (.Name x p1)) pos) (tS mg (sRetO i)) := ps_weak (ps_ret (pe_var hN hv hd hcd)) fun De σ H h => by
  obtain ⟨E, N, c, env, st, o, st', R, q, p⟩ := tS_def.mp h
  unfold sRetO at q
  split at q
  · rename_i xs hx
    cases q
    obtain ⟨a, vs, ea, ha, rr⟩ := R.sl i _ hx
    have ea := join_some ea
    obtain ⟨na, nc, n0⟩ := R.own i _ a hx rfl ea
    exact ⟨.ref a, ea, p _ _ _ (R.finC ha na nc n0 rr)⟩
  · cases q
end

/-! ### the fields of a new instance -/
def putD (m : Str) (d : D) : List Str → List D → List Str × List D
  | n :: ns, v :: vs => if n = m then (n :: ns, d :: vs) else (n :: (putD m d ns vs).1, v :: (putD m d ns vs).2)
  | _, _ => ([m], [d])
theorem putD_ok {mg : Glob} {N : Prot} {c : List Addr} {H : Hp} {m : Str} {v : V} {d : D} (h : Rep mg N c H v d) : ∀ {fs : List (Str × V)} {ds : List D}, RepL mg N c H (fs.map (·.2)) ds → (putF m v fs).map (·.1) = (putD m d (fs.map (·.1)) ds).1 ∧ RepL mg N c H ((putF m v fs).map (·.2)) (putD m d (fs.map (·.1)) ds).2
  | [], [], _ => ⟨rfl, .cons h .nil⟩
  | [], _ :: _, r => by cases r
  | _ :: _, [], r => by cases r
  | (a, b) :: r, d0 :: ds, .cons h0 t => by
    obtain ⟨h1, h2⟩ := putD_ok h t
    show ((putF m v ((a, b) :: r)).map (·.1) = (if a = m then (a :: r.map (·.1), d :: ds) else (a :: (putD m d (r.map (·.1)) ds).1, d0 :: (putD m d (r.map (·.1)) ds).2)).1) ∧ RepL mg N c H ((putF m v ((a, b) :: r)).map (·.2)) (if a = m then (a :: r.map (·.1), d :: ds) else (a :: (putD m d (r.map (·.1)) ds).1, d0 :: (putD m d (r.map (·.1)) ds).2)).2
    by_cases e : a = m
    · subst e
      have ep : putF a v ((a, b) :: r) = (a, v) :: r := by
        unfold putF
        rw [if_pos rfl]
      rw [ep, if_pos rfl]
      exact ⟨rfl, .cons h t⟩
    · have ep : putF m v ((a, b) :: r) = (a, b) :: putF m v r := by
        rw [putF, if_neg e]
      rw [ep, if_neg e]
      refine ⟨?_, .cons h0 h2⟩
      rw [List.map_cons, h1]
def sFld (cn : Str) (i : Nat) (m : Str) (fe : SE) : SS := fun env st => match fe env st with
  | some (d, s1) => match env[i]? with
    | some (.ownI cn' ns vs) => if cn' = cn ∧ ns.length < 1000 then some (.nx (env.set i (.ownI cn' (putD m d ns vs).1 (putD m d ns vs).2)), s1) else none
    | _ => none
  | none => none
section
variable {mg : Glob} {N N' : Prot} {c c' : List Addr} {H H' : Hp} {st st' : Sto} {E : En} {env : Env} {σ : L2.St}
/-- the frame's own instance changes -/
theorem Rel.writeI {i : Nat} {a C dx : Addr} {cn : Str} {ns ns' : List Str} {ds ds' : List D} {fs' : List (Str × V)} (R : Rel mg E N c env st σ H) (he : env[i]? = some (.ownI cn ns ds)) (hs : σ[i]? = some (some (.ref a))) (hC : mg.mg cn = some (.ref C)) (hn : fs'.map (·.1) = ns') (r : RepL mg N c H (fs'.map (·.2)) ds') :
    Rel mg E N c (env.set i (.ownI cn ns' ds')) st σ (upd H a (.ins C dx fs')) ∧ Sx N c H N c (upd H a (.ins C dx fs')) := by
  obtain ⟨na, nc, n0⟩ := R.own i _ a he rfl hs
  have keep : ∀ b o, H b = some o → ¬ N b → (upd H a (.ins C dx fs')) b = some o := fun b o e n => by
    rw [upd_ne (show b ≠ a from fun z => n (z ▸ na))]; exact e
  have tk : ∀ b, (upd H a (.ins C dx fs')) b = none → H b = none := fun b e => by
    by_cases q : b = a
    · rw [q, upd_same] at e; cases e
    · rw [upd_ne q] at e; exact e
  have sx : Sx N c H N c (upd H a (.ins C dx fs')) := ⟨keep, fun _ z => .inl z, fun _ _ z => z, fun _ z => .inl z, tk⟩
  have ne_of_own : ∀ (j : Nat) s b, i ≠ j → env[j]? = some s → s.isOwn = true → σ[j]? = some (some (.ref b)) → b ≠ a := fun j s b ne e ho z q => by
    subst q
    exact ne (R.inj i j _ s b he rfl e ho hs z)
  refine ⟨⟨by rw [List.length_set]; exact R.len, fun j s' e => ?_, fun j s' b e ho es => ?_, fun j k s1 s2 b e1 o1 e2 o2 h1 h2 => ?_, ?_, R.n0, R.t0, fun b o e n => ?_, R.pre, R.newc, fun j cn' ns1 ds1 b e es => (get_set e).elim (fun z => by
    obtain ⟨rfl, _⟩ := z
    exact R.slf _ cn ns ds b he es) fun z => R.slf j cn' ns1 ds1 b z.2 es⟩, sx⟩
  · rcases get_set e with ⟨rfl, rfl⟩ | ⟨ne, e⟩
    · rw [hs]
      exact ⟨a, C, dx, fs', rfl, hC, upd_same, hn, r.tr sx.tr⟩
    · have q := R.sl j s' e
      cases s' with
      | un => trivial
      | val d => obtain ⟨v, ev, rv⟩ := q; exact ⟨v, ev, rv.tr sx.tr⟩
      | own ys => obtain ⟨b, us', ev, hb', rv⟩ := q; exact ⟨b, us', ev, by rw [upd_ne (ne_of_own j _ b ne e rfl (join_some ev))]; exact hb', rv.tr sx.tr⟩
      | ownI cn ns ds => obtain ⟨b, C, dx, fs, ev, hc, hb', hn, rv⟩ := q; exact ⟨b, C, dx, fs, ev, hc, by rw [upd_ne (ne_of_own j _ b ne e rfl (join_some ev))]; exact hb', hn, rv.tr sx.tr⟩
      | ownD ks ds => obtain ⟨b, kvs, ev, hb', hn, rv⟩ := q; exact ⟨b, kvs, ev, by rw [upd_ne (ne_of_own j _ b ne e rfl (join_some ev))]; exact hb', hn, rv.tr sx.tr⟩
  · rcases get_set e with ⟨rfl, rfl⟩ | ⟨ne, e⟩
    · rw [hs] at es; cases es; exact ⟨na, nc, n0⟩
    · exact R.own j s' b e ho es
  · rcases get_set e1 with ⟨rfl, rfl⟩ | ⟨n1, e1⟩
    · rcases get_set e2 with ⟨rfl, rfl⟩ | ⟨n2, e2⟩
      · rfl
      · exact R.inj _ k _ s2 b he rfl e2 o2 h1 h2
    · rcases get_set e2 with ⟨rfl, rfl⟩ | ⟨n2, e2⟩
      · exact R.inj j _ s1 _ b e1 o1 he rfl h1 h2
      · exact R.inj j k s1 s2 b e1 o1 e2 o2 h1 h2
  · exact ⟨R.wd.len, fun k b ys h1 h2 => by
      obtain ⟨us', hb', rr⟩ := R.wd.sto k b ys h1 h2
      exact ⟨us', by rw [upd_ne (show b ≠ a from fun z => nc (z ▸ List.mem_of_getElem? h1))]; exact hb', rr.tr sx.tr⟩, R.wd.cn, R.wd.nd, fun b z e => R.wd.trk b z (tk b e)⟩
  · have : b ≠ a := fun z => by rw [z, n0] at e; cases e
    rw [upd_ne this]
    exact R.base b o e n
end
section
variable {mg : Glob} {X : Cx} {e : Expr} {pos apos : Pos} {fe : SE} {m : Str} {C : Addr} {cn : Str}
/-- self.m = e, self the frame's own new instance of the class cn -/
theorem s_fld {i : Nat} {x : Str} {p1 : Pos} (hC : mg.mg cn = some (.ref C)) (cl : Cls X.K C) (hna : NoAttr X.K C m) (he : PE X e (tE mg fe)) (hN : X.N[i]? = some x := by rfl) (hv : Vis X.env.scope x := by first | exact Or.inl rfl | exact Or.inr (Or.inl rfl) | exact Or.inr (Or.inr rfl)) (hd : (x == ("__debug__" : Str)) = false := by decide)
    (hcd : (x == ("__classdict__" : Str)) = false := by decide) (hs : swapsWith e (some (.Attribute (.Name x p1) m apos)) pos.line X.env = pure false := by rfl) :
    PS X (.Assign [.Attribute (.Name x p1) m apos] e pos) (tS mg (sFld cn i m fe)) :=
  ps_weak (ps_fld (pe_var hN hv hd hcd) he hs) fun De σ H h => by
    obtain ⟨E, N, c, env, st, o, st', R, q, p⟩ := tS_def.mp h
    unfold sFld at q
    split at q
    · rename_i d s1 q1
      split at q
      · rename_i cn' ns vs hx
        split at q
        · rename_i hl
          obtain ⟨rfl, hl⟩ := hl
          cases q
          refine ⟨E, N, c, env, st, d, _, R, q1, fun v N1 c1 H1 x1 W1 r1 => ?_⟩
          have R1 := R.ex x1 W1
          obtain ⟨a, C', dx, fs, ea, hc, ha, hn, rr⟩ := R1.sl i _ hx
          have ea := join_some ea
          rw [hC] at hc
          cases hc
          subst hn
          obtain ⟨h1, h2⟩ := putD_ok (m := m) r1 rr
          have wr := R1.writeI (dx := dx) hx ea hC h1 h2
          exact ⟨.ref a, ea, a, C, dx, fs, rfl, ha, cl, hna, by simpa using hl, p N1 c1 σ _ ((x1.sx R.wd W1).trans wr.2) wr.1⟩
        · cases q
      · cases q
    · cases q
end
/-- the body of an __init__ -/
def fldsOf (cn : Str) : Option Sl → Option (List Str × List D)
  | some (.ownI cn' ns vs) => if cn' = cn then some (ns, vs) else none
  | _ => none
theorem fldsOf_ok {cn : Str} {o : Option Sl} {ns : List Str} {vs : List D} (h : fldsOf cn o = some (ns, vs)) : o = some (.ownI cn ns vs) := by
  unfold fldsOf at h
  split at h
  · split at h
    · rename_i e
      cases h
      rw [e]
    · cases h
  · cases h
theorem env0_noOwn {m : Nat} {ds : List D} {i : Nat} {s : Sl} (e : (env0 m ds)[i]? = some s) : s.isOwn = false := by
  unfold env0 at e
  by_cases hi : i < ds.length
  · rw [List.getElem?_append_left (by simpa using hi), List.getElem?_map, List.getElem?_eq_getElem hi] at e
    cases e; rfl
  · rw [List.getElem?_append_right (by simpa using hi), List.getElem?_replicate] at e
    split at e
    · cases e; rfl
    · cases e
def initM (cn : Str) (n m : Nat) (body : SS) : FI := fun ds st => if ds.length = n then (match body (.ownI cn [] [] :: env0 (m - 1) ds) st with
  | some (.nx e, s1) => match fldsOf cn (e[0]?) with
    | some p => some (p, s1)
    | none => none
  | _ => none) else none
theorem initM_ar {cn : Str} {n m : Nat} {body : SS} : ArI n (initM cn n m body) := fun ds st r h => by
  unfold initM at h
  split at h
  · rename_i e; exact e
  · cases h
section
variable {P : Program} {w : World} {K : PySem.W.Frag} {mg : Str → Option Value} {base : Heap}
theorem fn_I {cn x qual : Str} {st : Stmt} {f : Addr} {fd : FuncData} {nm ps : List Str} {k n : Nat} {body : SS} (F : Fun K x qual st f fd) (S : FnScope nm ps (defScope st)) (hn : ps.length = n + 1) (hm : nm.length = nm.length - 1 + 1)
    (hbody : ∀ (cdv : Value) (A : Around) (outer : List PySem.Env) (s : Shared) (H : Hp) (E : XK), Room k (A.deeper (envOfC qual (defScope st) s.heap.objs.size f cdv)) →
      PSs (cxOf CX0 P w K mg base nm qual (defScope st) f cdv A outer s H E).nox (defBody st) (tS ⟨mg, K⟩ body)) :
    FnOk P w K mg base CX0 (k + 1) f fd ps (spI ⟨mg, K⟩ cn (initM cn n nm.length body) n) := by
  refine F.ok S (fun vs H Q E h => by rw [h.1, hn]) fun cdv A outer s H vs Q E hr h => ⟨_, hbody cdv A outer s H E hr, ?_⟩
  obtain ⟨_, N, c, z, dz, C, us, ds, st0, ns, fds, st', rfl, hC, hz, nz, ncz, W, r, q, kk⟩ := h
  unfold initM at q
  split at q
  · rename_i hl
    split at q
    · rename_i e1 s1 q1
      split at q
      · rename_i pr hf
        cases q
        -- the entry: as if the instance were not there
        have hs : L2.start nm (.ref z :: us) = some (.ref z) :: (us.map some ++ List.replicate (nm.length - 1 - us.length) none) := by
          unfold L2.start
          rw [List.map_cons, List.length_cons, List.cons_append]
          congr 2
          congr 1
          omega
        have R0 := rel0 (nm := List.replicate (nm.length - 1) ("" : Str)) W r
        have e0 : env0 (nm.length - 1) ds = env0 (List.replicate (nm.length - 1) ("" : Str)).length ds := by rw [List.length_replicate]
        have s0 : (us.map some ++ List.replicate (nm.length - 1 - us.length) none : L2.St) = L2.start (List.replicate (nm.length - 1) ("" : Str)) us := by
          unfold L2.start
          rw [List.length_replicate]
        have R : Rel ⟨mg, K⟩ ⟨fun a => if a = z then none else H a, fun a => N a ∧ a ≠ z, c, some z⟩ N c (.ownI cn [] [] :: env0 (nm.length - 1) ds) st0 (L2.start nm (.ref z :: us)) H := by
          rw [hs, e0, s0]
          refine ⟨by rw [List.length_cons, List.length_cons, R0.len], fun i s e => ?_, fun i s a e ho es => ?_, fun i j s s' a e1 o1 e2 o2 h1 h2 => ?_, W, fun a h => h.1, fun a h e => ?_, fun a o e nc => ?_, fun _ _ h => h, fun _ h => .inl h, fun i cn' ns' ds' a e es => ?_⟩
          · cases i with
            | zero => cases e; exact ⟨z, C, dz, [], rfl, hC, hz, rfl, .nil⟩
            | succ i => exact R0.sl i s e
          · cases i with
            | zero => cases es; exact ⟨nz, ncz, if_pos rfl⟩
            | succ i => rw [env0_noOwn e] at ho; cases ho
          · cases i with
            | zero =>
              cases j with
              | zero => rfl
              | succ j => rw [env0_noOwn e2] at o2; cases o2
            | succ i => rw [env0_noOwn e1] at o1; cases o1
          · exact W.trk a h.1 ((if_neg h.2).symm.trans e)
          · by_cases q : a = z
            · exact absurd ((if_pos q).symm.trans e) (by simp)
            · exact (if_neg q).symm.trans e
          · cases i with
            | zero => cases es; rfl
            | succ i =>
              have := env0_noOwn e
              cases this
        refine tS_def.mpr ⟨_, N, c, _, st0, .nx e1, _, R, q1, fun N' c' σ' H' sx R' => ?_⟩
        have he := fldsOf_ok hf
        obtain ⟨a, C', dx', fs', ea, hc, ha, hnm, rr⟩ := R'.sl 0 _ he
        have ea := join_some ea
        have ez : some z = some a := R'.slf 0 _ _ _ a he ea
        cases ez
        obtain ⟨nz', ncz', _⟩ := R'.own 0 _ z he rfl ea
        have ec : C' = C := by
          have := hc.symm.trans hC
          cases this; rfl
        subst ec
        refine kk N' c' H' dx' fs' (fun b o hb nb ne => ?_) sx.new (fun b hb => ?_) R'.pre (fun b hb => ?_) R'.wd ha hnm rr
        · have h0 : (fun a => if a = z then none else H a : Hp) b = some o := (if_neg ne).trans hb
          refine R'.base b o h0 fun q => ?_
          rcases R'.newc b q with q | q
          · exact nb q
          · exact absurd (h0.symm.trans q) (by simp)
        · by_cases q : b = z
          · rw [q]; exact nz'
          · exact R'.n0 b ⟨hb, q⟩
        · rcases R'.newc b hb with q | q
          · exact .inl q
          · by_cases q2 : b = z
            · exact absurd (q2 ▸ hb) ncz'
            · exact .inr ((if_neg q2).symm.trans q)
      · cases q
    · cases q
  · cases q
end
end LW

/-! LwL: == and != by an own __eq__; two names at once. -/
namespace LW
open PySem L2 PyProof.Rows

/-! ### == and != of own instances -/
section
variable {prog : Program} {w : World} {A : Around} {E : Value → Shared → Prop} {s : Shared} {K : PySem.W.Frag} {x C f : Addr} {ox : Obj} {od : Option Obj} {b tb : Value}
open PySem.W in
/-- x != b where the class has object's __ne__ and an own __eq__ -/
theorem cmpNe_K {Q : Value → Shared → Prop} (hu : A.units + 1 < cLine) (X : K.In s.heap) (I : InstAt s.heap x ox C od) (hb : Looks (model prog w) s.heap (typeOf b) tb) (hn : notFirst K C tb = true)
    (hne : findIn K (.ref C) "__ne__" = some (some (.builtin "object.__ne__"))) (hob : mroIn K C (.type "object") = some true)
    (hs : findIn K (.ref C) "__eq__" = some (some (.ref f))) (hf : isFn K (.ref f) = true)
    (h : wpAny (model prog w) A.in1 (call (.ref f) [.ref x, b]) (fun v s' => ∃ r, v = .bool r ∧ Q (.bool (!r)) s') E s) : wpAny (model prog w) A (richCompare .NotEq (.ref x) b) Q E s := by
  have sub : Looks (model prog w) s.heap (isInstance (.ref x) (.type "object")) true := I.type.andThen (looks_mroIn X hob)
  have body : wpAny (model prog w) A.in1 (Builtin.«object.__ne__» ⟨[.ref x, b], []⟩) (fun fin s' => ∃ r, fin = .done (.ret (.bool r)) ∧ Q (.bool r) s') E s := by
    unfold Builtin.«object.__ne__»
    repeat (first
      | with_reducible refine wpAny_cRoomFor hu ?_
      | (refine wpAny_bind (m := callSpecialIfBound? (.ref x) (Str.ofString "__eq__") [b])
          (ifBound_K X I hs hf (wpAny_mono h (fun r s' hr => by
            obtain ⟨q, rfl, hq⟩ := hr
            repeat (first | exact ⟨_, rfl, hq⟩ | exact wpAny_pure ⟨_, rfl, hq⟩ | exact wpAny_truthy_bool ⟨_, rfl, hq⟩ | (refine wpAny_bind (m := truthy (.bool _)) (wpAny_truthy_bool ?_)) | wp_step)) fun _ _ e => e)))
      | wp_step)
  have one : wpAny (model prog w) A (tryCompare (.ref x) "__ne__" b) (fun r s' => ∃ v, r = some v ∧ Q v s') E s := by
    unfold tryCompare
    refine wpAny_bind ?_
    simp only [callSpecialIfBound?, bindSpecialIfBound?]
    refine wpAny_holding (wpAny_bind (wpAny_bind (wpAny_bind (I.type.here ((looks_findIn X hne).here ?_)))))
    have callB : wpAny (model prog w) A (call (.builtin "object.__ne__") ([.ref x] ++ [b])) (fun v s' => ∃ r, v = .bool r ∧ Q (.bool r) s') E s := by
      refine wpAny_call (codeAny_call_builtin PySem.F.cmp_object.ne.plain PySem.F.cmpEntry_ne (check_slot PySem.F.cmpKind_ne PySem.F.cmpSplit_ne sub (PySem.F.cmpArgs_ne _ _) (wpAny_mono body (fun fin s' hq => ?_) fun _ _ e => e)))
      obtain ⟨r, rfl, hq⟩ := hq
      exact ⟨r, rfl, hq⟩
    have fin : wpAny (model prog w) A (call (.builtin "object.__ne__") ([.ref x] ++ [b]) >>= fun v => pure (some v)) (fun r s' => wpAny (model prog w) A (match r with | some .notImplemented => pure none | none => pure none | some v => pure (some v)) (fun r s' => ∃ v, r = some v ∧ Q v s') E s') E s :=
      wpAny_bind (wpAny_mono callB (fun v s' h' => by
        obtain ⟨r, rfl, hq⟩ := h'
        exact wpAny_pure (wpAny_pure ⟨_, rfl, hq⟩)) fun _ _ e => e)
    refine wpAny_bind (wpAny_askSetting (wpAny_ite ?_))
    split
    · rw [PySem.F.cmp_object.ne.bind]
      exact wpAny_bind (wpAny_pure (wpAny_pure (by exact fin)))
    · rw [PySem.F.cmp_object.ne.bind]
      exact wpAny_tryCatch (wpAny_bind (wpAny_pure (wpAny_pure (by exact fin))))
  unfold richCompare
  simp only [oneThing_ref]
  refine wpAny_holding (wpAny_bind (wpAny_cRoomFor (Nat.lt_of_succ_lt hu) ?_))
  refine wpAny_bind (I.type.here (wpAny_bind (hb.here ?_)))
  split
  · rename_i q
    have e : subIn K tb (.ref C) = some false := by
      rcases Bool.or_eq_true_iff.mp hn with e | e
      · rw [beq_iff_eq.mp e] at q; simp at q
      · exact beq_iff_eq.mp e
    refine wpAny_bind ((looks_subIn X e).here ?_)
    simp only [Bool.false_eq_true, if_false]
    refine wpAny_bind (wpAny_mono one (fun r s' z => ?_) fun _ _ e => e)
    obtain ⟨v, rfl, hq⟩ := z
    exact wpAny_pure hq
  · refine wpAny_bind (wpAny_pure ?_)
    simp only [Bool.false_eq_true, if_false]
    refine wpAny_bind (wpAny_mono one (fun r s' z => ?_) fun _ _ e => e)
    obtain ⟨v, rfl, hq⟩ := z
    exact wpAny_pure hq
end
/-- x == y, x != y where the class C of x has an own __eq__ with the promise sp -/
def rOwn (K : PySem.W.Frag) (C : Addr) (sp : Sp) (neg : Bool) : R2 := fun x y H Q => ∃ a dx fs t, x = .ref a ∧ H a = some (.ins C dx fs) ∧ TyX K H y t ∧ PySem.W.notFirst K C t = true ∧ sp [x, y] H (fun v H' => ∃ b, v = .bl b ∧ Q (.bl (if neg then !b else b)) H') E0
section
variable {X : Cx} {k : Nat} {f C : Addr} {fd : FuncData} {ps : List Str} {sp : Sp}
theorem op_eqO (F : FnOk X.prog X.w X.K X.mg X.base CX0 k f fd ps sp) (hr : Room (k + 1) X.A) (hs : PySem.W.findIn X.K (.ref C) "__eq__" = some (some (.ref f))) (hf : PySem.W.isFn X.K (.ref f) = true) (hb : Binds X.K fd ps []) : OpR X (compareOp .Eq) (rOwn X.K C sp false) := by
  intro pins s σ H x y v u Q I rx ry hq
  obtain ⟨a, dx, fs, t, rfl, ha, ty, nf, q⟩ := hq
  obtain rfl : v = Value.ref a := rx
  obtain ⟨mA, J, _⟩ := ins_get I.hok ha
  obtain ⟨od, J, _⟩ := J.look
  obtain ⟨P, Z, p, _⟩ := kit_of I ry ty
  obtain ⟨m, hF⟩ := I.fr
  show wpAny (model X.prog X.w) X.A (richCompare .Eq (.ref a) u) (EP X pins σ Q) X.xe s
  refine PySem.W.cmp_K (op := .Eq) (tb := t) hr.units0 hF I.ok.mod.kin J (Z.ty _ _ I.kIn p) nf hs hf ?_
  have r2 : Vals [V.ref a, y] [Value.ref a, u] := .cons rfl (.cons ry .nil)
  refine thn (run_fn (us := [.ref a, u]) (E := E0) F (hr.mono (Nat.le_succ _)) hb .nil pass0 I r2 (by rw [List.append_nil]; exact q)) fun w s' hw => ?_
  obtain ⟨z, H', I', rz, b, rfl, qz⟩ := hw
  obtain rfl : w = Value.bool b := rz
  exact ⟨.bl b, H', I', rfl, qz⟩
theorem op_neO (F : FnOk X.prog X.w X.K X.mg X.base CX0 k f fd ps sp) (hr : Room (k + 1) X.A) (hne : PySem.W.findIn X.K (.ref C) "__ne__" = some (some (.builtin "object.__ne__"))) (hob : PySem.W.mroIn X.K C (.type "object") = some true)
    (hs : PySem.W.findIn X.K (.ref C) "__eq__" = some (some (.ref f))) (hf : PySem.W.isFn X.K (.ref f) = true) (hb : Binds X.K fd ps []) : OpR X (compareOp .NotEq) (rOwn X.K C sp true) := by
  intro pins s σ H x y v u Q I rx ry hq
  obtain ⟨a, dx, fs, t, rfl, ha, ty, nf, q⟩ := hq
  obtain rfl : v = Value.ref a := rx
  obtain ⟨mA, J, _⟩ := ins_get I.hok ha
  obtain ⟨od, J, _⟩ := J.look
  obtain ⟨P, Z, p, _⟩ := kit_of I ry ty
  show wpAny (model X.prog X.w) X.A (richCompare .NotEq (.ref a) u) (EP X pins σ Q) X.xe s
  refine cmpNe_K (by have := hr.units; omega) I.kIn J (Z.ty _ _ I.kIn p) nf hne hob hs hf ?_
  have r2 : Vals [V.ref a, y] [Value.ref a, u] := .cons rfl (.cons ry .nil)
  have hl : ([Value.ref a, u] : List Value).length = ps.length := by
    have e := F.len _ _ _ _ q
    exact e
  refine wpAny_call (codeAny_mono (F.run X.A.in1 X.stack s H ⟨[.ref a, u], []⟩ [.ref a, u] [.ref a, y] _ E0 hr.in1 I.env0.in1 (by
    have z := hb s [.ref a, u] I.kIn (by rw [List.append_nil]; exact hl)
    rw [List.append_nil] at z
    exact z) r2 q) fun r s' hq => ?_)
  cases r with
  | error e => exact hq.elim
  | ok fl =>
    cases fl with
    | ret w =>
      obtain ⟨z, H', I', rz, b, rfl, qz⟩ := I.after hq
      obtain rfl : w = Value.bool b := rz
      exact ⟨b, rfl, .bl (!b), H', I', rfl, qz⟩
    | next => exact False.elim hq
    | brk => exact False.elim hq
    | cont => exact False.elim hq
end
/-- a value whose class is known -/
def okTy (cs : List Str) (y : D) : Bool := match ty7 y with
  | some _ => true
  | none => match y with
    | .obj n _ _ => decide (n ∈ cs)
    | _ => false
/-- x == y by data -/
def eOwn (cn : Str) (cs : List Str) (neg : Bool) (g : FM) (fa fb : SE) : SE := fun env st => match fa env st with
  | some (.obj cn' ns vs, s1) => if cn' = cn then (match fb env s1 with
    | none => none
    | some (y, s2) => if okTy cs y = true then (match g [.obj cn' ns vs, y] s2 with
      | some (.bl b, s3) => some (.bl (if neg then !b else b), s3)
      | _ => none) else none) else none
  | _ => none
section
variable {mg : Glob} {X : Cx} {k : Nat} {f C : Addr} {fd : FuncData} {ps : List Str} {g : FM} {cn : Str} {cs : List Str} {a b : Expr} {pos : Pos} {fa fb : SE}
/-- the other's class is not asked first -/
structure NotF (mg : Glob) (cs : List Str) (C : Addr) : Prop where
  own : ∀ n C', n ∈ cs → mg.mg n = some (.ref C') → PySem.W.notFirst mg.K C (.ref C') = true
  blt : ∀ t : Ty7, PySem.W.notFirst mg.K C (.type t.name) = true
theorem r_own2 {neg : Bool} (hC : mg.mg cn = some (.ref C)) (T : Isi mg cs) (nf : NotF mg cs C) (har : Ar 2 g) {σ : L2.St} {H : Hp} {Q : VK} (h : tE mg (eOwn cn cs neg g fa fb) σ H Q) : tOp (rOwn mg.K C (spM mg g 2) neg) (tE mg fa) (tE mg fb) σ H Q := by
  obtain ⟨E0, N, c, env, st, d, st', R, q, kk⟩ := h
  unfold eOwn at q
  split at q
  · rename_i cn' ns vs s1 q1
    split at q
    · rename_i hcn
      subst hcn
      split at q
      · cases q
      · rename_i y s2 q2
        split at q
        · rename_i hty
          split at q
          · rename_i b s3 q3
            cases q
            refine ⟨E0, N, c, env, st, _, s1, R, q1, fun v N1 c1 H1 x1 W1 r1 => ?_⟩
            refine ⟨E0, N1, c1, env, s1, y, s2, R.ex x1 W1, q2, fun u N2 c2 H2 x2 W2 r2 => ?_⟩
            have r1' := Rep.tr (x2.tr W1) r1
            obtain ⟨a, C', dx, fs', rfl, hc, ha, hn, rr⟩ := RepT.obj (.inl r1')
            rw [hC] at hc
            cases hc
            have tyy : ∃ t, TyX mg.K H2 u t ∧ PySem.W.notFirst mg.K C t = true := by
              cases e7 : ty7 y with
              | some t => exact ⟨_, ty7_of W2 (.inl r2) e7, nf.blt t⟩
              | none =>
                unfold okTy at hty
                rw [e7] at hty
                dsimp only at hty
                split at hty
                · rename_i n ns' vs'
                  have hm := of_decide_eq_true hty
                  obtain ⟨b, C', dx', fs'', rfl, hc', hb, _, _⟩ := RepT.obj (.inl r2)
                  have cf := T.cf _ C' hm hc'
                  exact ⟨_, .base (.ins hb cf.cl cf.ha cf.hn cf.htk cf.hm), nf.own _ C' hm hc'⟩
                · cases hty
            obtain ⟨t, t1, t2⟩ := tyy
            refine ⟨a, dx, fs', t, rfl, ha, t1, t2, rfl, N2, c2, _, s2, _, _, W2, .cons r1' (.cons r2 .nil), q3, fun w N3 c3 H3 x3 W3 r3 => ?_⟩
            refine ⟨b, RepT.bl (.inl r3), ?_⟩
            exact kk _ N3 c3 H3 ((x1.trans x2 R.wd).trans x3 R.wd) W3 (.bl _)
          · cases q
        · cases q
    · cases q
  · cases q
theorem d_eqO (ha : PE X a (tE mg fa)) (hb' : PE X b (tE mg fb)) (hC : mg.mg cn = some (.ref C)) (T : Isi mg cs) (nf : NotF mg cs C) (F : FnOk X.prog X.w X.K X.mg X.base CX0 k f fd ps (spM mg g 2)) (har : Ar 2 g) (hr : Room (k + 1) X.A) (hs : PySem.W.findIn X.K (.ref C) "__eq__" = some (some (.ref f))) (hf : PySem.W.isFn X.K (.ref f) = true) (hb : Binds X.K fd ps [])
    (hK : X.K = mg.K := by rfl) : PE X (.Compare a [.Eq] [b] pos) (tE mg (eOwn cn cs false g fa fb)) :=
  pe_weak (pe_cmpR (op_eqO F hr hs hf hb) ha hb' (nomark _)) fun _ _ _ h => hK ▸ r_own2 hC T nf har h
theorem d_neO (ha : PE X a (tE mg fa)) (hb' : PE X b (tE mg fb)) (hC : mg.mg cn = some (.ref C)) (T : Isi mg cs) (nf : NotF mg cs C) (F : FnOk X.prog X.w X.K X.mg X.base CX0 k f fd ps (spM mg g 2)) (har : Ar 2 g) (hr : Room (k + 1) X.A) (hne : PySem.W.findIn X.K (.ref C) "__ne__" = some (some (.builtin "object.__ne__"))) (hob : PySem.W.mroIn X.K C (.type "object") = some true)
    (hs : PySem.W.findIn X.K (.ref C) "__eq__" = some (some (.ref f))) (hf : PySem.W.isFn X.K (.ref f) = true) (hb : Binds X.K fd ps []) (hK : X.K = mg.K := by rfl) : PE X (.Compare a [.NotEq] [b] pos) (tE mg (eOwn cn cs true g fa fb)) :=
  pe_weak (pe_cmpR (op_neO F hr hne hob hs hf hb) ha hb' (nomark _)) fun _ _ _ h => hK ▸ r_own2 hC T nf har h
end

/-! ### two names at once -/
/-- what a value may become: data, or a list of the frame's own -/
inductive Kd where
  | val (f : SE) | own (f : Fx (List D))
def Kd.run : Kd → Fx Sl
  | .val f => fun env st => match f env st with
    | some (d, s1) => some (.val d, s1)
    | none => none
  | .own f => fun env st => match f env st with
    | some (xs, s1) => some (.own xs, s1)
    | none => none
def sPar (i j : Nat) (a b : Kd) : SS := fun env st => match a.run env st with
  | some (x, s1) => match b.run env s1 with
    | some (y, s2) => if i = j then none else some (.nx ((env.set i x).set j y), s2)
    | none => none
  | none => none
/-- a reading that gives a slot's content -/
def RK (mg : Glob) : Told Sl := fun _ _ H N' c' H' v s => match s with
  | .val d => Rep mg N' c' H' v d
  | .own xs => ∃ p vs, v = .ref p ∧ H p = none ∧ N' p ∧ p ∉ c' ∧ H' p = some (.lst vs) ∧ RepL mg N' c' H' vs xs
  | _ => False
section
variable {mg : Glob} {X : Cx} {e a b : Expr} {pos : Pos} {fe : SE} {fl : Fx (List D)}
theorem k_val (h : PE X e (tE mg fe)) : PE X e (tX mg (RK mg) (Kd.run (.val fe))) := pe_weak h fun σ H Q ⟨E, N, c, env, st, d, st', R, q, k⟩ => by
  unfold Kd.run at q
  dsimp only at q
  split at q
  · rename_i d0 s1 q1
    cases q
    exact ⟨E, N, c, env, st, d0, _, R, q1, fun v N' c' H' x W r => k v N' c' H' x W r⟩
  · cases q
theorem k_own (h : PE X e (tL mg fl)) : PE X e (tX mg (RK mg) (Kd.run (.own fl))) := pe_weak h fun σ H Q ⟨E, N, c, env, st, d, st', R, q, k⟩ => by
  unfold Kd.run at q
  dsimp only at q
  split at q
  · rename_i d0 s1 q1
    cases q
    exact ⟨E, N, c, env, st, d0, _, R, q1, fun v N' c' H' x W r => k v N' c' H' x W r⟩
  · cases q
/-- a slot is set to what such a reading gave, some steps behind -/
theorem Rel.setK {E : En} {N N1 N2 : Prot} {c c1 c2 : List Addr} {H H1 H2 : Hp} {st st1 st2 : Sto} {env env' : Env} {σ σ' : L2.St} {i : Nat} {v : V} {s : Sl} (R : Rel mg E N c env st σ H) (W1 : Wd mg N1 c1 H1 st1) (x2 : Ex N1 c1 H1 N2 c2 H2) (R2 : Rel mg E N2 c2 env' st2 σ' H2)
    (r : RK mg N c H N1 c1 H1 v s) (hw : ∀ p, H p = none → ∀ (j : Nat) s, env'[j]? = some s → s.isOwn = true → σ'[j]? ≠ some (some (.ref p))) : Rel mg E N2 c2 (env'.set i s) st2 (σ'.set i (some v)) H2 := by
  cases s with
  | un => exact r.elim
  | val d => exact R2.set (s := .val d) rfl ⟨v, rfl, Rep.tr (x2.tr W1) (show Rep mg N1 c1 H1 v d from r)⟩
  | own xs =>
    obtain ⟨p, vs, rfl, hp, np, nc, hv, rr⟩ := r
    exact R2.setOwn (x2.keep p _ hv nc) (x2.mono p np) (x2.nc W1 hv nc) (R.fresh0 hp) (rr.tr (x2.tr W1)) (hw p hp)
  | ownI cn ns ds => exact r.elim
  | ownD ks ds => exact r.elim
/-- a, b = x, y -/
theorem s_par {i j : Nat} {x y : Str} {ka kb : Kd} {px py pt : Pos} {kt k2 pt2} (hN : X.N.Nodup) (ha : PE X a (tX mg (RK mg) ka.run)) (hb : PE X b (tX mg (RK mg) kb.run)) (hc : X.calm = true := by rfl) (hi : X.N[i]? = some x := by rfl) (hj : X.N[j]? = some y := by rfl) (hij : i ≠ j := by decide)
    (hx : X.env.scope.names.lookup x = some .local := by rfl) (hy : X.env.scope.names.lookup y = some .local := by rfl)
    (hw : swappedStores [.Tuple [.Name x px, .Name y py] kt pt] (.Tuple [a, b] k2 pt2) X.env = pure (some [x, y]) := by rfl)
    (hs : swapsWithSole [.Tuple [.Name x px, .Name y py] kt pt] (.Tuple [a, b] k2 pt2) pos.line X.env = pure false := by rfl)
    (h1 : starEach [a, b] X.env = (false, eval a X.env) :: starEach [b] X.env := by rfl) (h2 : starEach [b] X.env = (false, eval b X.env) :: starEach [] X.env := by rfl) :
    PS X (.Assign [.Tuple [.Name x px, .Name y py] kt pt] (.Tuple [a, b] k2 pt2) pos) (tS mg (sPar i j ka kb)) :=
  ps_weak (ps_par hc hN hi hj hij hx hy (pa_cons ha (pa_cons hb pa_nil h2) h1) hw hs) fun De σ H h => by
    obtain ⟨E, N, c, env, st, o, st', R, q, p⟩ := tS_def.mp h
    unfold sPar at q
    split at q
    · rename_i s1 st1 q1
      split at q
      · rename_i s2 st2 q2
        split at q
        · cases q
        · cases q
          refine ⟨E, N, c, env, st, s1, st1, R, q1, fun v N1 c1 H1 x1 W1 r1 => ?_⟩
          refine ⟨E, N1, c1, env, st1, s2, _, R.ex x1 W1, q2, fun u N2 c2 H2 x2 W2 r2 => ?_⟩
          refine ⟨v, u, rfl, ?_⟩
          have x12 := x1.trans x2 R.wd
          have R2 := R.ex x12 W2
          have nw1 : ∀ p, H p = none → ∀ (j : Nat) s, env[j]? = some s → s.isOwn = true → σ[j]? ≠ some (some (.ref p)) := fun p hp => R.notOwn hp
          have Ra := Rel.setK (i := i) R W1 x2 R2 r1 nw1
          have R1 := R.ex x1 W1
          have nw2 : ∀ p, H1 p = none → ∀ (m : Nat) s, (env.set i s1)[m]? = some s → s.isOwn = true → (σ.set i (some v))[m]? ≠ some (some (.ref p)) := fun p hp m s e ho z => by
            rcases get_set e with ⟨rfl, rfl⟩ | ⟨ne, e⟩
            · have hl : i < σ.length := by
                rw [R.len]
                have := (List.getElem?_eq_some_iff.mp e).1
                simpa using this
              rw [List.getElem?_set_self hl] at z
              cases z
              cases s with
              | own xs =>
                obtain ⟨p', vs, ep, _, _, _, hv, _⟩ := r1
                cases ep
                rw [hp] at hv; cases hv
              | un => cases ho
              | val d => cases ho
              | ownI cn ns ds => exact r1.elim
              | ownD ks ds => exact r1.elim
            · rw [List.getElem?_set_ne ne] at z
              exact R1.notOwn hp m s e ho z
          have Rb := Rel.setK (i := j) R1 W2 Ex.refl Ra r2 nw2
          exact p N2 c2 _ H2 (x12.sx R.wd W2) Rb
      · cases q
    · cases q
end
end LW

/-! LwM: defs that say repr (nothing is being shown around them); the end of a law. -/
namespace LW
open PySem L2 PyProof.Rows

/-- as FnOk, where nothing is being shown around the call -/
structure FnD (P : Program) (w : World) (K : PySem.W.Frag) (mg : Str → Option Value) (base : Heap) (k : Nat) (f : Addr) (fd : FuncData) (ps : List Str) (sp : Sp) : Prop where
  len : ∀ vs H Q E, sp vs H Q E → vs.length = ps.length
  run : ∀ (A : Around) (outer : List PySem.Env) (s : Shared) (H : Hp) (args : Args) (us : List Value) (vs : List V) (Q : VK) (E : XK), Room k A → A.guards = some [] → Env0 P w K mg base A outer s H → BindsTo s fd args (ps.zip us) → Vals vs us → sp vs H Q E →
    codeAny (model P w) A (.call (.ref f) args) (CR CX0 outer P w H s Q E) s
section
variable {P : Program} {w : World} {K : PySem.W.Frag} {mg : Str → Option Value} {base : Heap} {k : Nat} {f : Addr} {fd : FuncData} {ps : List Str} {sp : Sp}
theorem FnD.of (F : FnOk P w K mg base CX0 k f fd ps sp) : FnD P w K mg base k f fd ps sp := ⟨F.len, fun A outer s H args us vs Q E hr _ => F.run A outer s H args us vs Q E hr⟩
theorem fn_D {x qual : Str} {st : Stmt} {nm : List Str} (F : Fun K x qual st f fd) (S : FnScope nm ps (defScope st)) (len : ∀ vs H Q E, sp vs H Q E → vs.length = ps.length)
    (hbody : ∀ (cdv : Value) (A : Around) (outer : List PySem.Env) (s : Shared) (H : Hp) (vs : List V) (Q : VK) (E : XK), Room k (A.deeper (envOfC qual (defScope st) s.heap.objs.size f cdv)) → A.guards = some [] → sp vs H Q E →
      ∃ t, PSs (cxOf CX0 P w K mg base nm qual (defScope st) f cdv A outer s H E).nox (defBody st) t ∧ t { nx := fun _ H' => Q .non H', rt := Q } (L2.start nm vs) H) : FnD P w K mg base (k + 1) f fd ps sp := by
  obtain ⟨oc, od, kV, doc, pm, an, cdv, ct, osl, rfl, lk, hcd⟩ := F.ex
  refine ⟨len, fun A outer s H args us vs Q E hr hgd e0 hb r hsp => ?_⟩
  have hl : vs.length = ps.length := len _ _ _ _ hsp
  have inK : K.In s.heap := e0.mod.kin.keeps fun b o e => (e0.bs b o e).1
  have noL : s.heap.NoLimit := e0.mod.nolimit.keeps fun b o e => (e0.bs b o e).1
  have kinds : ∀ y ∈ ps.zip us, (defScope st).names.lookup y.1 = some .local ∨ ((defScope st).names.lookup y.1 = some .cell ∧ ((cellsFrom (s.heap.objs.size + 1) (defScope st).names []).lookup y.1).isSome = true) := by
    rintro ⟨n, v⟩ hy
    exact (S.par n (List.of_mem_zip hy).1).elim .inl fun q => .inr ⟨q, PySem.W.cellsFrom_some _ _ _ (.inl q)⟩
  refine codeAny_call_function hr.depth (inK _ _ lk) rfl S.co S.gen rfl (PySem.W.codeRec_of inK hcd) (hb _ _ _ _ ?_)
  refine wpAny_newFunctionEnv_cells S.kind kinds fun env he s1 z => ?_
  subst he
  refine ⟨noL.keeps z.toInCall.keep, codeAny_func ?_⟩
  obtain ⟨t, ht, hq⟩ := hbody cdv A outer s H vs Q E (hr.deeper _) hgd hsp
  have I := inv_start (CX := CX0) (E := E) S hr.hd e0 hl r z
  refine wpAny_mono (ht.nox.run [] s1 (L2.start nm vs) H _ I hq) (fun fl s' hs => ?_) fun e s' hs => hs
  cases fl with
  | ret u =>
    obtain ⟨v, σ', H', J, rv, q⟩ := hs
    exact ⟨v, H', J.os, J.bare, J.base, J.hok, rv, q⟩
  | next =>
    obtain ⟨σ', H', J, q⟩ := hs
    exact ⟨V.non, H', J.os, J.bare, J.base, J.hok, rfl, q⟩
  | brk => exact (hs.choose_spec.choose_spec.2 : False).elim
  | cont => exact (hs.choose_spec.choose_spec.2 : False).elim
theorem fn_MD {x qual : Str} {st : Stmt} {nm : List Str} {body : SS} (F : Fun K x qual st f fd) (S : FnScope nm ps (defScope st))
    (hbody : ∀ (cdv : Value) (A : Around) (outer : List PySem.Env) (s : Shared) (H : Hp) (E : XK), Room k (A.deeper (envOfC qual (defScope st) s.heap.objs.size f cdv)) → A.guards = some [] →
      PSs (cxOf CX0 P w K mg base nm qual (defScope st) f cdv A outer s H E).nox (defBody st) (tS ⟨mg, K⟩ body)) :
    FnD P w K mg base (k + 1) f fd ps (spM ⟨mg, K⟩ (fnM ps.length nm.length body) ps.length) := by
  refine fn_D F S (fun vs H Q E h => h.1) fun cdv A outer s H vs Q E hr hgd h => ⟨_, hbody cdv A outer s H E hr hgd, ?_⟩
  obtain ⟨_, N, c, ds, st0, d, st', W, r, q, kk⟩ := h
  unfold fnM at q
  split at q
  · rename_i hl
    have R := rel0 (nm := nm) W r
    split at q
    · rename_i d1 s1 q1
      cases q
      exact tS_def.mpr ⟨_, N, c, _, st0, _, _, R, q1, fun c' H' v fn => kk v _ c' H' (fn.ex W) fn.wd fn.rep⟩
    · rename_i e1 s1 q1
      cases q
      exact tS_def.mpr ⟨_, N, c, _, st0, _, _, R, q1, fun N' c' σ' H' sx R' => kk .non _ c' H' ((R'.fin .non).ex W) (R'.fin .non).wd (.non)⟩
    · cases q
  · cases q
end
section
variable {mg : Glob} {X : Cx} {k : Nat} {f C : Addr} {fd : FuncData} {ps : List Str} {g : FM} {n : Nat} {dvs : List V} {ds : List Value} {dd : List D} {x m : Str} {p pos apos : Pos} {e o : Expr} {es : List Expr} {fs : SA} {fo : SE}
/-- f(e, ..) of such a def -/
theorem d_callD (F : FnD X.prog X.w X.K X.mg X.base k f fd ps (spM mg g n)) (har : Ar n g) (hr : Room k X.A) (hgd : X.A.guards = some []) (hm : X.mg x = some (.ref f)) (hk : PySem.W.keepIn X.K (.ref f) = true) (hb : Binds X.K fd ps ds) (hd : Vals dvs ds) (hdd : Dfl mg dvs dd) (ha : PA X (e :: es) (tA mg fs))
    (hg : Gl X x := by rfl) (hdb : (x == ("__debug__" : Str)) = false := by decide) (he : starEach (e :: es) X.env = (false, eval e X.env) :: starEach es X.env := by rfl) (hpl : (backTo pos (starEach es X.env)).any (·.1) = false := by rfl) :
    PE X (.Call (.Name x p) (e :: es) [] pos) (tE mg (eCall g dd fs)) := by
  refine ⟨fun pins s σ H Q I h => ?_⟩
  have h2 : tCall (spM mg g n) dvs E0 (tA mg fs) σ H Q := r_call har hdd rfl h
  refine wpAny_Call_Name_kw (ld_glob I hg hm ?_ hdb)
  refine PySem.W.callWith_K (h₀ := X.base) I.ok.mod.kin hk (thn (ha.run pos pins s σ H _ I h2) fun us s1 ⟨vs, H1, I1, r, q⟩ => ⟨I1.kIn, ?_⟩) he hpl
  have r2 : Vals (vs ++ dvs) (us ++ ds) := r.append hd
  have hl : (us ++ ds).length = ps.length := r2.length.symm.trans (F.len _ _ _ _ q)
  refine wpAny_call (codeAny_mono (F.run X.A X.stack s1 H1 ⟨us, []⟩ (us ++ ds) (vs ++ dvs) Q E0 hr hgd I1.env0 (hb s1 us I1.kIn hl) r2 q) fun rr s' hq => ?_)
  cases rr with
  | error er => exact hq.elim
  | ok fl =>
    cases fl with
    | ret u => exact I1.after hq
    | next => exact hq.elim
    | brk => exact hq.elim
    | cont => exact hq.elim
end

/-! ### the end of a law -/
/-- the script as data -/
theorem rep_script {mg : Glob} {N : Prot} {c : List Addr} {H : Hp} {a : Addr} {ns : List Int} (hO : Only H) (hS : SqL mg.K H a (ns.map V.int)) (hN : ¬ N a) : Rep mg N c H (.ref a) (.fro (ns.map D.int)) := by
  rcases hS with (h | ⟨o, h⟩) | h
  · rcases hO a with z | ⟨o, xs, z⟩
    · rw [h] at z; cases z
    · rw [h] at z; cases z
  · exact .fro h hN (RepL.ints ns)
  · exact .kro fun H' => .inr h
theorem sp_law {mg : Glob} {g : FM} {H : Hp} {a : Addr} {ns : List Int} (hO : Only H) (hS : SqL mg.K H a (ns.map V.int)) {st' : Sto} (hg : g [.fro (ns.map D.int)] [] = some (.bl true, st')) : spM mg g 1 [.ref a] H (fun v _ => v = .bl true) fun _ _ _ => False := by
  refine ⟨rfl, fun _ => False, [], [.fro (ns.map D.int)], [], .bl true, st', ⟨rfl, fun k a xs h => by simp at h, fun a h => by simp at h, List.nodup_nil, fun a h => h.elim⟩, .cons (rep_script hO hS fun z => z) .nil, hg, fun v N' c' H' _ _ r => ?_⟩
  cases r
  rfl
/-- the law's call behind the top -/
theorem law_D {P : Program} {w : World} {K : PySem.W.Frag} {mg mb : Str → Option Value} {k : Nat} {fa a : Addr} {fd : FuncData} {x : Str} {sp : Sp} {s₁ : Shared} {vs : List Value} {ns : List Int}
    (KX : K.In s₁.heap) (hns : s₁.heap.Ns mainGlobals mg) (hb : s₁.heap.Ns builtinsNs mb) (hbb : ∀ x : Str, x ≠ "__name__" → mb x = bootBuiltins x) (hlim : s₁.heap.NoLimit) (hg : s₁.gens = #[])
    (ha : s₁.heap.get? a = some { cls := .type "list", data := .seq vs.toArray }) (hi : IntsAre vs ns) (hl : ns.length ≤ sizeLine) (hr : Room k callerA)
    (F : ∀ base : Heap, K.In base → base.Ns mainGlobals mg → FnD P w K mg base k fa fd [x] sp) (hbind : ∀ (s : Shared) (u : Value), BindsTo s fd ⟨[u], []⟩ [(x, u)])
    (hsp : ∀ H : Hp, Only H → SqL K H a (ns.map V.int) → sp [.ref a] H (fun v _ => v = .bl true) fun _ _ _ => False) :
    codeAny (model P w) callerA (.call (.ref fa) ⟨[.ref a], []⟩) (fun r s' => r = .ok (.ret (.bool true)) ∧ OldK s₁.heap s'.heap ∧ s'.os = s₁.os ∧ AllBare s'.gens) s₁ := by
  have rv := vals_ints hi
  have lv := hi.length
  -- the script is tracked, frozen, unless it is an object of the module
  let ob : Obj := { cls := .type "list", data := .seq vs.toArray }
  let H : Hp := fun b => if b = a ∧ K.lookup a = none then some (.frz ob (.lst (ns.map V.int))) else none
  have hH : ∀ b u, H b = some u → b = a ∧ K.lookup a = none ∧ u = .frz ob (.lst (ns.map V.int)) := fun b u e => by
    by_cases q : b = a ∧ K.lookup a = none
    · have e' := (if_pos q).symm.trans e
      cases e'
      exact ⟨q.1, q.2, rfl⟩
    · have e' := (if_neg q).symm.trans e
      cases e'
  have hO : Only H := fun b => by
    by_cases q : b = a ∧ K.lookup a = none
    · exact .inr ⟨_, _, if_pos q⟩
    · exact .inl (if_neg q)
  have hS : SqL K H a (ns.map V.int) := by
    cases hk : K.lookup a with
    | none => exact .inl (.inr ⟨ob, if_pos ⟨rfl, hk⟩⟩)
    | some o =>
      have e := KX a o hk
      rw [ha] at e
      cases e
      exact .inr ⟨_, vs.toArray, _, hk, rfl, rfl, rfl, by rw [List.size_toArray, lv]; exact hl, by simpa using rv⟩
  have hok : HOk P w H s₁.heap := fun b u e => by
    obtain ⟨rfl, _, rfl⟩ := hH b u e
    exact ⟨ha, by rw [List.length_map]; exact hl, vs, _, rv, ha⟩
  -- namespaces and the written part are not tracked
  have dictFree : ∀ {b : Addr} {o : Obj} {es : Array DictEntry} {ep : Nat}, s₁.heap.get? b = some o → o.data = .dict es ep → H b = none := fun {b o es ep} e d => by
    cases q : H b with
    | none => rfl
    | some u =>
      obtain ⟨rfl, _, _⟩ := hH b u q
      rw [ha] at e
      cases e
      cases (show Data.seq vs.toArray _ = Data.dict es ep from d)
  have nsK : ∀ {b : Addr} {m : Str → Option Value}, s₁.heap.Ns b m → (hidT s₁.heap H).Ns b m := fun {b m} ⟨o, es, ep, e, d, r⟩ => ⟨o, es, ep, hidT_get e (dictFree e d), d, r⟩
  have kb : K.In (hidT s₁.heap H) := fun b o e => hidT_get (KX b o e) (by
    cases q : H b with
    | none => rfl
    | some u =>
      obtain ⟨rfl, z, _⟩ := hH b u q
      have e' : K.lookup b = some o := e
      rw [z] at e'; cases e')
  have md : Mod K mg (hidT s₁.heap H) := ⟨kb, nsK hns, ⟨mb, nsK hb, hbb⟩, let ⟨mc, h1, h2⟩ := hlim; ⟨mc, nsK h1, h2⟩⟩
  have e0 : Env0 P w K mg (hidT s₁.heap H) callerA [] s₁ H := ⟨rfl, md, fun b o e => of_hidT e, Nat.le_of_eq (hidT_size _ _), trivial, fun b z => absurd z (by simp [frs]), hok, .of_eq hg⟩
  refine codeAny_mono ((F _ kb (nsK hns)).run callerA [] s₁ H ⟨[.ref a], []⟩ [.ref a] [.ref a] _ _ hr rfl e0 (hbind s₁ (.ref a)) (.cons rfl .nil) (hsp H hO hS)) fun r s' h => ?_
  cases r with
  | error e => exact h.elim
  | ok fl =>
    cases fl with
    | next => exact h.elim
    | brk => exact h.elim
    | cont => exact h.elim
    | ret u =>
      obtain ⟨v, H', os, bare, un, hok', r', q⟩ := h
      subst q
      obtain rfl : u = Value.bool true := r'
      refine ⟨rfl, OldK.of_keep fun b o e => ?_, os, bare⟩
      cases q : H b with
      | none => exact un.keep b o e q (by simp [frs]) (by simp)
      | some u =>
        obtain ⟨rfl, hk, rfl⟩ := hH b u q
        have z2 := un.frzs b ob _ q
        obtain ⟨e1, _⟩ := hok b _ q
        obtain ⟨e2, _⟩ := hok' b _ z2
        rw [e] at e1
        cases e1
        exact e2
/-- the goal that k_head leaves, from the law's promise -/
theorem walk_D {l : PySem.W.OpenLaw} {n k : Nat} {q : Program} {loose : List Str} {XP : (Str → Option Value) → Heap → Prop} {YP : World → Heap → Prop} {d : DefRec} {K : Params → PySem.W.Frag} {x : Str} {g : FM}
    (hn : l.most = some n) (hn2 : n ≤ sizeLine) (hdf : d.params.defaults = []) (hr : Room k callerA) (hY : ∀ (w : World) (h : Heap), YP w h → (K w.params).In h)
    (F : ∀ (w : World) (mg : Str → Option Value) (fa : Addr) (h : Heap), (K w.params).In h → h.Ns mainGlobals mg → mg d.name = some (.ref fa) →
      ∃ fd : FuncData, (∀ (s : Shared) (u : Value), BindsTo s fd ⟨[u], []⟩ [(x, u)]) ∧ ∀ base : Heap, (K w.params).In base → base.Ns mainGlobals mg → FnD l.prog w (K w.params) mg base k fa fd [x] (spM ⟨mg, K w.params⟩ g 1))
    (hg : ∀ ns : List Int, ns.length ≤ n → ∃ st', g [.fro (ns.map D.int)] [] = some (.bl true, st')) :
    PySem.W.WalkO q loose XP YP l.row.toRowW d [] (fun f vs => PySem.call f vs) := by
  refine Att.attach_call hn hdf fun w s₀ s₁ mg mb fa o pm cd doc a vs ns G Y ho hd hcd hmg hobj hints hlen hg' => ?_
  have KX := hY w _ Y
  obtain ⟨fd, hb, hF⟩ := F w mg fa _ KX G.T.g hmg
  obtain ⟨st', e⟩ := hg ns hlen
  exact law_D KX G.T.g G.T.b G.T.builtins G.T.nolimit hg' hobj hints (Nat.le_trans hlen hn2) hr hF hb fun H hO hS => sp_law (mg := ⟨mg, K w.params⟩) hO hS e
end LW

/-! LwN: short words: a def, a method, a class, with where it stands. -/
namespace LW
open PySem L2 PyProof.Rows

section
variable (P : Program) (w : World) (K : PySem.W.Frag) (mg : Str → Option Value) (base : Heap)
/-- the def x of the module, as the top has left it -/
def FT (x : Str) (st : Stmt) : Prop := ∃ f fd, mg x = some (.ref f) ∧ Fun K x x st f fd
/-- .. with defaults -/
def FTd (x : Str) (st : Stmt) (dvs : List V) : Prop := ∃ f fd, mg x = some (.ref f) ∧ FunD K x x (defArgs st) (defBody st) (defScope st) dvs [] f fd
/-- the method m of the class at C -/
def MT (C : Addr) (m qual : Str) (st : Stmt) : Prop := ∃ f fd, Meth K C m f ∧ Fun K m qual st f fd
/-- the property m of the class at C -/
def PT' (C : Addr) (m qual : Str) (st : Stmt) : Prop := ∃ p f fd, PropOf K C m p f ∧ Fun K m qual st f fd
/-- the def x keeps the promise of g -/
def OkF (k : Nat) (x : Str) (ps : List Str) (g : FM) : Prop := ∃ f fd, mg x = some (.ref f) ∧ PySem.W.keepIn K (.ref f) = true ∧ FnOk P w K mg base CX0 k f fd ps (spM ⟨mg, K⟩ g ps.length) ∧ Binds K fd ps [] ∧ Ar ps.length g
def OkD (k : Nat) (x : Str) (ps : List Str) (g : FM) : Prop := ∃ f fd, mg x = some (.ref f) ∧ PySem.W.keepIn K (.ref f) = true ∧ FnD P w K mg base k f fd ps (spM ⟨mg, K⟩ g ps.length) ∧ Binds K fd ps [] ∧ Ar ps.length g
/-- .. called with n arguments, the rest by defaults -/
def OkFd (k : Nat) (x : Str) (ps : List Str) (n : Nat) (dvs : List V) (g : FM) : Prop := ∃ f fd ds, mg x = some (.ref f) ∧ PySem.W.keepIn K (.ref f) = true ∧ FnOk P w K mg base CX0 k f fd ps (spM ⟨mg, K⟩ g ps.length) ∧ Vals dvs ds ∧ Binds K fd ps ds ∧ Ar ps.length g
def OkM (k : Nat) (C : Addr) (m : Str) (ps : List Str) (g : FM) : Prop := ∃ f fd, Meth K C m f ∧ FnOk P w K mg base CX0 k f fd ps (spM ⟨mg, K⟩ g ps.length) ∧ Binds K fd ps [] ∧ Ar ps.length g
def OkP (k : Nat) (C : Addr) (m : Str) (ps : List Str) (g : FM) : Prop := ∃ p f fd, PropOf K C m p f ∧ FnOk P w K mg base CX0 k f fd ps (spM ⟨mg, K⟩ g ps.length) ∧ Binds K fd ps [] ∧ Ar ps.length g
/-- the class cn is made by an __init__ that reckons g -/
def OkC (k : Nat) (cn : Str) (C : Addr) (n : Nat) (ps : List Str) (g : FI) : Prop := ∃ f fd, Mk K C f ∧ FnOk P w K mg base CX0 k f fd ps (spI ⟨mg, K⟩ cn g n) ∧ Binds K fd ps [] ∧ ArI n g
end
section
variable {P : Program} {w : World} {K : PySem.W.Frag} {mg : Str → Option Value} {base : Heap} {k : Nat} {x m qual cn : Str} {st : Stmt} {nm ps : List Str} {body : SS} {C : Addr}
theorem okF_mk (F : FT K mg x st) (S : FnScope nm ps (defScope st))
    (hb : ∀ (kV doc pm : Value) (an : Option Addr) (cdv ct : Value) (us : List Value), us.length = ps.length → bindArgs (PySem.W.fnOf x x (defArgs st) (defBody st) (defScope st) .none kV doc pm an cdv ct) ⟨us, []⟩ = pure (ps.zip us))
    (hbody : ∀ (f : Addr) (cdv : Value) (A : Around) (outer : List PySem.Env) (s : Shared) (H : Hp) (E : XK), Room k (A.deeper (envOfC x (defScope st) s.heap.objs.size f cdv)) →
      PSs (cxOf CX0 P w K mg base nm x (defScope st) f cdv A outer s H E).nox (defBody st) (tS ⟨mg, K⟩ body)) : OkF P w K mg base (k + 1) x ps (fnM ps.length nm.length body) := by
  obtain ⟨f, fd, hm, F⟩ := F
  exact ⟨f, fd, hm, F.kp, fn_M F S fun cdv A outer s H E hr => hbody f cdv A outer s H E hr, F.binds hb, fnM_ar⟩
theorem okD_mk (F : FT K mg x st) (S : FnScope nm ps (defScope st))
    (hb : ∀ (kV doc pm : Value) (an : Option Addr) (cdv ct : Value) (us : List Value), us.length = ps.length → bindArgs (PySem.W.fnOf x x (defArgs st) (defBody st) (defScope st) .none kV doc pm an cdv ct) ⟨us, []⟩ = pure (ps.zip us))
    (hbody : ∀ (f : Addr) (cdv : Value) (A : Around) (outer : List PySem.Env) (s : Shared) (H : Hp) (E : XK), Room k (A.deeper (envOfC x (defScope st) s.heap.objs.size f cdv)) → A.guards = some [] →
      PSs (cxOf CX0 P w K mg base nm x (defScope st) f cdv A outer s H E).nox (defBody st) (tS ⟨mg, K⟩ body)) : OkD P w K mg base (k + 1) x ps (fnM ps.length nm.length body) := by
  obtain ⟨f, fd, hm, F⟩ := F
  exact ⟨f, fd, hm, F.kp, fn_MD F S fun cdv A outer s H E hr hg => hbody f cdv A outer s H E hr hg, F.binds hb, fnM_ar⟩
theorem OkF.d (h : OkF P w K mg base k x ps g) : OkD P w K mg base k x ps g := by
  obtain ⟨f, fd, h1, h2, h3, h4, h5⟩ := h
  exact ⟨f, fd, h1, h2, FnD.of h3, h4, h5⟩
theorem okFd_mk {dvs : List V} {n j : Nat} (F : FTd K mg x st dvs) (S : FnScope nm ps (defScope st)) (hd : dvs ≠ []) (hn : n + (dvs.length - j) = ps.length)
    (hb : ∀ (T : Addr) (kV doc pm : Value) (an : Option Addr) (cdv ct : Value) (us its : List Value), us.length = n → its.length = dvs.length →
      ∃ k, bindArgs (PySem.W.fnOf x x (defArgs st) (defBody st) (defScope st) (.ref T) kV doc pm an cdv ct) ⟨us, []⟩ = seqItems? (.ref T) >>= k ∧ k (some its.toArray) = pure (ps.zip (us ++ its.drop j)))
    (hbody : ∀ (f : Addr) (cdv : Value) (A : Around) (outer : List PySem.Env) (s : Shared) (H : Hp) (E : XK), Room k (A.deeper (envOfC x (defScope st) s.heap.objs.size f cdv)) →
      PSs (cxOf CX0 P w K mg base nm x (defScope st) f cdv A outer s H E).nox (defBody st) (tS ⟨mg, K⟩ body)) : OkFd P w K mg base (k + 1) x ps n (dvs.drop j) (fnM ps.length nm.length body) := by
  obtain ⟨f, fd, hm, F⟩ := F
  obtain ⟨ds, hv, hB⟩ := F.binds1 n j hd hn hb
  refine ⟨f, fd, ds, hm, F.kp, ?_, hv, hB, fnM_ar⟩
  refine F.ok (CX := CX0) S (fun vs H Q E h => h.1) fun cdv A outer s H vs Q E hr h => ⟨_, (hbody f cdv A outer s H E hr).nox, ?_⟩
  obtain ⟨_, N, c, ds, st0, d, st', W, r, q, kk⟩ := h
  unfold fnM at q
  split at q
  · rename_i hl
    have R := rel0 (nm := nm) W r
    split at q
    · rename_i d1 s1 q1
      cases q
      exact tS_def.mpr ⟨_, N, c, _, st0, _, _, R, q1, fun c' H' v fn => kk v _ c' H' (fn.ex W) fn.wd fn.rep⟩
    · rename_i e1 s1 q1
      cases q
      exact tS_def.mpr ⟨_, N, c, _, st0, _, _, R, q1, fun N' c' σ' H' sx R' => kk .non _ c' H' ((R'.fin .non).ex W) (R'.fin .non).wd (.non)⟩
    · cases q
  · cases q
theorem okM_mk (F : MT K C m qual st) (S : FnScope nm ps (defScope st))
    (hb : ∀ (kV doc pm : Value) (an : Option Addr) (cdv ct : Value) (us : List Value), us.length = ps.length → bindArgs (PySem.W.fnOf m qual (defArgs st) (defBody st) (defScope st) .none kV doc pm an cdv ct) ⟨us, []⟩ = pure (ps.zip us))
    (hbody : ∀ (f : Addr) (cdv : Value) (A : Around) (outer : List PySem.Env) (s : Shared) (H : Hp) (E : XK), Room k (A.deeper (envOfC qual (defScope st) s.heap.objs.size f cdv)) →
      PSs (cxOf CX0 P w K mg base nm qual (defScope st) f cdv A outer s H E).nox (defBody st) (tS ⟨mg, K⟩ body)) : OkM P w K mg base (k + 1) C m ps (fnM ps.length nm.length body) := by
  obtain ⟨f, fd, hm, F⟩ := F
  exact ⟨f, fd, hm, fn_M F S fun cdv A outer s H E hr => hbody f cdv A outer s H E hr, F.binds hb, fnM_ar⟩
theorem okP_mk (F : PT' K C m qual st) (S : FnScope nm ps (defScope st))
    (hb : ∀ (kV doc pm : Value) (an : Option Addr) (cdv ct : Value) (us : List Value), us.length = ps.length → bindArgs (PySem.W.fnOf m qual (defArgs st) (defBody st) (defScope st) .none kV doc pm an cdv ct) ⟨us, []⟩ = pure (ps.zip us))
    (hbody : ∀ (f : Addr) (cdv : Value) (A : Around) (outer : List PySem.Env) (s : Shared) (H : Hp) (E : XK), Room k (A.deeper (envOfC qual (defScope st) s.heap.objs.size f cdv)) →
      PSs (cxOf CX0 P w K mg base nm qual (defScope st) f cdv A outer s H E).nox (defBody st) (tS ⟨mg, K⟩ body)) : OkP P w K mg base (k + 1) C m ps (fnM ps.length nm.length body) := by
  obtain ⟨p, f, fd, hm, F⟩ := F
  exact ⟨p, f, fd, hm, fn_M F S fun cdv A outer s H E hr => hbody f cdv A outer s H E hr, F.binds hb, fnM_ar⟩
theorem okC_mk {n : Nat} (F : ∃ f fd, Mk K C f ∧ Fun K "__init__" qual st f fd) (S : FnScope nm ps (defScope st)) (hn : ps.length = n + 1) (hm : nm.length = nm.length - 1 + 1)
    (hb : ∀ (kV doc pm : Value) (an : Option Addr) (cdv ct : Value) (us : List Value), us.length = ps.length → bindArgs (PySem.W.fnOf "__init__" qual (defArgs st) (defBody st) (defScope st) .none kV doc pm an cdv ct) ⟨us, []⟩ = pure (ps.zip us))
    (hbody : ∀ (f : Addr) (cdv : Value) (A : Around) (outer : List PySem.Env) (s : Shared) (H : Hp) (E : XK), Room k (A.deeper (envOfC qual (defScope st) s.heap.objs.size f cdv)) →
      PSs (cxOf CX0 P w K mg base nm qual (defScope st) f cdv A outer s H E).nox (defBody st) (tS ⟨mg, K⟩ body)) : OkC P w K mg base (k + 1) cn C n ps (initM cn n nm.length body) := by
  obtain ⟨f, fd, hM, F⟩ := F
  exact ⟨f, fd, hM, fn_I F S hn hm fun cdv A outer s H E hr => hbody f cdv A outer s H E hr, F.binds hb, initM_ar⟩
end

/-! ### calls -/
section
variable {X : Cx} {k : Nat} {C : Addr} {ps : List Str} {g : FM} {gi : FI} {n : Nat} {dvs : List V} {dd : List D} {x m cn : Str} {p pos apos : Pos} {e o a b : Expr} {es : List Expr} {fs : SA} {fo fa fb : SE}
theorem c_call (h : OkF X.prog X.w X.K X.mg X.base k x ps g) (hr : Room k X.A) (ha : PA X (e :: es) (tA ⟨X.mg, X.K⟩ fs)) (hg : Gl X x := by rfl) (hdb : (x == ("__debug__" : Str)) = false := by decide) (he : starEach (e :: es) X.env = (false, eval e X.env) :: starEach es X.env := by rfl) (hpl : (backTo pos (starEach es X.env)).any (·.1) = false := by rfl) :
    PE X (.Call (.Name x p) (e :: es) [] pos) (tE ⟨X.mg, X.K⟩ (eCall g [] fs)) := by
  obtain ⟨f, fd, hm, hk, F, hb, ar⟩ := h
  exact d_call F ar hr hm hk hb .nil dfl_nil ha hg hdb he hpl
theorem c_call0 (h : OkF X.prog X.w X.K X.mg X.base k x ps g) (hr : Room k X.A) (hg : Gl X x := by rfl) (hdb : (x == ("__debug__" : Str)) = false := by decide) : PE X (.Call (.Name x p) [] [] pos) (tE ⟨X.mg, X.K⟩ (eCall g [] aNil)) := by
  obtain ⟨f, fd, hm, hk, F, hb, ar⟩ := h
  exact d_call0 F ar hr hm hk hb .nil dfl_nil hg hdb
theorem c_callD (h : OkD X.prog X.w X.K X.mg X.base k x ps g) (hr : Room k X.A) (hgd : X.A.guards = some []) (ha : PA X (e :: es) (tA ⟨X.mg, X.K⟩ fs)) (hg : Gl X x := by rfl) (hdb : (x == ("__debug__" : Str)) = false := by decide) (he : starEach (e :: es) X.env = (false, eval e X.env) :: starEach es X.env := by rfl) (hpl : (backTo pos (starEach es X.env)).any (·.1) = false := by rfl) :
    PE X (.Call (.Name x p) (e :: es) [] pos) (tE ⟨X.mg, X.K⟩ (eCall g [] fs)) := by
  obtain ⟨f, fd, hm, hk, F, hb, ar⟩ := h
  exact d_callD F ar hr hgd hm hk hb .nil dfl_nil ha hg hdb he hpl
theorem c_calld (h : OkFd X.prog X.w X.K X.mg X.base k x ps n dvs g) (hd : Dfl ⟨X.mg, X.K⟩ dvs dd) (hr : Room k X.A) (ha : PA X (e :: es) (tA ⟨X.mg, X.K⟩ fs)) (hg : Gl X x := by rfl) (hdb : (x == ("__debug__" : Str)) = false := by decide) (he : starEach (e :: es) X.env = (false, eval e X.env) :: starEach es X.env := by rfl) (hpl : (backTo pos (starEach es X.env)).any (·.1) = false := by rfl) :
    PE X (.Call (.Name x p) (e :: es) [] pos) (tE ⟨X.mg, X.K⟩ (eCall g dd fs)) := by
  obtain ⟨f, fd, ds, hm, hk, F, hv, hb, ar⟩ := h
  exact d_call F ar hr hm hk hb hv hd ha hg hdb he hpl
theorem c_meth (h : OkM X.prog X.w X.K X.mg X.base k C m ps g) (hC : X.mg cn = some (.ref C)) (cl : Cls X.K C) (hr : Room k X.A) (ho : PE X o (tE ⟨X.mg, X.K⟩ fo)) (ha : PA X (e :: es) (tA ⟨X.mg, X.K⟩ fs))
    {pl : Sem Bool} (hst : starEach (e :: es) X.env = (false, eval e X.env) :: starEach es X.env := by rfl) (hpl : (backTo pos (starEach es X.env)).any (·.1) = false := by rfl)
    (ht : eval (.Call (.Attribute o m apos) (e :: es) [] pos) X.env = (do
      let ov ← eval o X.env
      standAt apos.atName
      let (f, first) ← holding [ov] (getMethod ov m pl)
      callWith pos f first (backTo pos (starEach (e :: es) X.env)) (backToKw pos (keywordEach [] X.env))) := by rfl) :
    PE X (.Call (.Attribute o m apos) (e :: es) [] pos) (tE ⟨X.mg, X.K⟩ (eMeth cn m g [] fo fs)) := by
  obtain ⟨f, fd, hm, F, hb, ar⟩ := h
  exact d_meth ho hC cl hm F ar hr hb .nil dfl_nil ha hst hpl ht
theorem c_meth0 (h : OkM X.prog X.w X.K X.mg X.base k C m ps g) (hC : X.mg cn = some (.ref C)) (cl : Cls X.K C) (hr : Room k X.A) (ho : PE X o (tE ⟨X.mg, X.K⟩ fo))
    {pl : Sem Bool} (ht : eval (.Call (.Attribute o m apos) [] [] pos) X.env = (do
      let ov ← eval o X.env
      standAt apos.atName
      let (f, first) ← holding [ov] (getMethod ov m pl)
      callWith pos f first (backTo pos (starEach [] X.env)) (backToKw pos (keywordEach [] X.env))) := by rfl) :
    PE X (.Call (.Attribute o m apos) [] [] pos) (tE ⟨X.mg, X.K⟩ (eMeth cn m g [] fo aNil)) := by
  obtain ⟨f, fd, hm, F, hb, ar⟩ := h
  exact d_meth0 ho hC cl hm F ar hr hb .nil dfl_nil ht
theorem c_prop (h : OkP X.prog X.w X.K X.mg X.base k C m ps g) (hC : X.mg cn = some (.ref C)) (cl : Cls X.K C) (hr : Room (k + 1) X.A) (ho : PE X o (tE ⟨X.mg, X.K⟩ fo)) (hab : attributeBase o m X.env (eval o X.env) = eval o X.env := by rfl) : PE X (.Attribute o m pos) (tE ⟨X.mg, X.K⟩ (eProp cn g fo)) := by
  obtain ⟨pa, f, fd, hm, F, hb, ar⟩ := h
  exact d_prop ho hC cl hm F ar hr hb hab
theorem c_make (h : OkC X.prog X.w X.K X.mg X.base k x C n ps gi) (hC : X.mg x = some (.ref C)) (hr : Room (k + 1) X.A) (ha : PA X (e :: es) (tA ⟨X.mg, X.K⟩ fs)) (hg : Gl X x := by rfl) (hdb : (x == ("__debug__" : Str)) = false := by decide) (he : starEach (e :: es) X.env = (false, eval e X.env) :: starEach es X.env := by rfl) (hpl : (backTo pos (starEach es X.env)).any (·.1) = false := by rfl) :
    PE X (.Call (.Name x p) (e :: es) [] pos) (tE ⟨X.mg, X.K⟩ (eMake x gi [] fs)) := by
  obtain ⟨f, fd, M, F, hb, ar⟩ := h
  exact d_make M F ar hr hC hb .nil dfl_nil ha rfl hg hdb he hpl
/-- a class with an own __eq__ -/
structure EqF (X : Cx) (k : Nat) (C : Addr) (cs : List Str) (g : FM) : Prop where
  isi : Isi ⟨X.mg, X.K⟩ cs
  nf : NotF ⟨X.mg, X.K⟩ cs C
  ne : PySem.W.findIn X.K (.ref C) "__ne__" = some (some (.builtin "object.__ne__"))
  ob : PySem.W.mroIn X.K C (.type "object") = some true
  eq : ∃ ps, ps.length = 2 ∧ OkM X.prog X.w X.K X.mg X.base k C "__eq__" ps g
theorem c_eq {cs : List Str} (h : EqF X k C cs g) (hC : X.mg cn = some (.ref C)) (hr : Room (k + 1) X.A) (ha : PE X a (tE ⟨X.mg, X.K⟩ fa)) (hb' : PE X b (tE ⟨X.mg, X.K⟩ fb)) : PE X (.Compare a [.Eq] [b] pos) (tE ⟨X.mg, X.K⟩ (eOwn cn cs false g fa fb)) := by
  obtain ⟨ps, hl, f, fd, hm, F, hb, ar⟩ := h.eq
  rw [hl] at F ar
  exact d_eqO ha hb' hC h.isi h.nf F ar hr hm.at_ hm.fn hb
theorem c_ne {cs : List Str} (h : EqF X k C cs g) (hC : X.mg cn = some (.ref C)) (hr : Room (k + 1) X.A) (ha : PE X a (tE ⟨X.mg, X.K⟩ fa)) (hb' : PE X b (tE ⟨X.mg, X.K⟩ fb)) : PE X (.Compare a [.NotEq] [b] pos) (tE ⟨X.mg, X.K⟩ (eOwn cn cs true g fa fb)) := by
  obtain ⟨ps, hl, f, fd, hm, F, hb, ar⟩ := h.eq
  rw [hl] at F ar
  exact d_neO ha hb' hC h.isi h.nf F ar hr h.ne h.ob hm.at_ hm.fn hb
/-- n.bit_length() -/
def eBits (f : SE) : SE := fun env st => match f env st with
  | some (.int i, s1) => some (.int (Builtin.Int.intBits i : Nat), s1)
  | _ => none
end
theorem d_bits {mg : Glob} {X : Cx} {o : Expr} {fo : SE} {apos pos : Pos} (ho : PE X o (tP mg fo)) (hbase : attributeBase o "bit_length" X.env (eval o X.env) = eval o X.env := by rfl) (hline : (apos.endLine == pos.line) = true := by rfl) : PE X (.Call (.Attribute o "bit_length" apos) [] [] pos) (tE mg (eBits fo)) :=
  pe_weak (pe_bits ho hbase hline) fun σ H Q ⟨E, N, c, env, st, d, st', R, q, k⟩ => by
    unfold eBits at q
    split at q
    · rename_i i s1 q1
      cases q
      exact ⟨E, N, c, env, st, _, _, R, q1, fun v N1 c1 H1 x1 W1 r1 => ⟨i, r1.int, k _ N1 c1 H1 x1 W1 (.int _)⟩⟩
    · cases q
end LW

/-! LwO: from what the head has written to the words of LwN. -/
namespace LW
open PySem L2 PyProof.Rows
section
variable {P : Program} {w : World} {K : PySem.W.Frag} {mg : Str → Option Value} {base h : Heap} {x m qual cn : Str} {st : Stmt} {f p C T : Addr} {oc kV doc pm cdv ct : Value} {od an : Option Addr} {osl : Array (Option Value)} {rest : List Value}
theorem ft_mk (X : K.In h) (G : h.Ns mainGlobals mg) (a : PySem.W.nsIn K mainGlobals x = some (some (.ref f))) (l : K.lookup f = some ⟨oc, od, .func (PySem.W.fnOf x x (defArgs st) (defBody st) (defScope st) .none kV doc pm an cdv ct), osl⟩)
    (c : PySem.W.codeIn K cdv x = true) (k : PySem.W.keepIn K (.ref f) = true) : FT K mg x st := ⟨f, _, PySem.W.mg_of X G a, fun_mk l c k⟩
theorem ftd_mk {dvs : List V} {its : List Value} {n : Nat} {oc' : Value} {od' : Option Addr} {osl' : Array (Option Value)} (X : K.In h) (G : h.Ns mainGlobals mg) (a : PySem.W.nsIn K mainGlobals x = some (some (.ref f)))
    (l : K.lookup f = some ⟨oc, od, .func (PySem.W.fnOf x x (defArgs st) (defBody st) (defScope st) (.ref T) kV doc pm an cdv ct), osl⟩) (t : K.lookup T = some ⟨oc', od', .seq its.toArray n, osl'⟩)
    (c : PySem.W.codeIn K cdv x = true) (k : PySem.W.keepIn K (.ref f) = true) (v : Vals dvs its) (ne : dvs ≠ []) : FTd K mg x st dvs :=
  ⟨f, _, PySem.W.mg_of X G a, ⟨⟨oc, od, _, kV, doc, pm, an, cdv, ct, osl, rfl, l, c, .inr ⟨ne, T, _, its, n, rfl, t, rfl, v⟩, .inl rfl⟩, k⟩⟩
theorem mt_mk (a : PySem.W.findIn K (.ref C) m = some (some (.ref f))) (i : PySem.W.isFn K (.ref f) = true) (l : K.lookup f = some ⟨oc, od, .func (PySem.W.fnOf m qual (defArgs st) (defBody st) (defScope st) .none kV doc pm an cdv ct), osl⟩)
    (c : PySem.W.codeIn K cdv qual = true) (k : PySem.W.keepIn K (.ref f) = true) : MT K C m qual st := ⟨f, _, ⟨a, i, k⟩, fun_mk l c k⟩
theorem pt_mk (a : PySem.W.findIn K (.ref C) m = some (some (.ref p))) (g : PySem.W.specialIn K (.ref p) "__get__" = some (some (.builtin "property.__get__"))) (t : PySem.W.takesIn K (.ref p) = some true) (r : PySem.W.recIn K p "property" = some (.ref f :: rest))
    (l : K.lookup f = some ⟨oc, od, .func (PySem.W.fnOf m qual (defArgs st) (defBody st) (defScope st) .none kV doc pm an cdv ct), osl⟩) (c : PySem.W.codeIn K cdv qual = true) (k : PySem.W.keepIn K (.ref f) = true) : PT' K C m qual st :=
  ⟨p, f, _, ⟨a, g, t, rest, r⟩, fun_mk l c k⟩
theorem in_mk (mk : PySem.W.makesIn K C = true) (a : PySem.W.findIn K (.ref C) "__init__" = some (some (.ref f))) (i : PySem.W.isFn K (.ref f) = true) (kc : PySem.W.keepIn K (.ref C) = true)
    (l : K.lookup f = some ⟨oc, od, .func (PySem.W.fnOf "__init__" qual (defArgs st) (defBody st) (defScope st) .none kV doc pm an cdv ct), osl⟩) (c : PySem.W.codeIn K cdv qual = true) (k : PySem.W.keepIn K (.ref f) = true) :
    ∃ f fd, Mk K C f ∧ Fun K "__init__" qual st f fd := ⟨f, _, ⟨mk, a, i, kc⟩, fun_mk l c k⟩
theorem cf_mk (pg : PySem.W.plainGet K C Str.empty = true) (hd : PySem.W.hasDictIn K C = true) (po : PySem.W.plainOver K C = true) (sa : PySem.W.findIn K (.ref C) "__setattr__" = some (some (.builtin "object.__setattr__")))
    (ha : PySem.W.findIn K (.ref C) "__class__" = some (some (.builtin "object.__class__"))) (hn : PySem.W.specialIn K (.builtin "object.__class__") "__get__" = some (some (.builtin "getset_descriptor.__get__")))
    (htk : PySem.W.takesIn K (.builtin "object.__class__") = some true) (hm : PySem.W.mroIn K C (.type "object") = some true) : CF K C := ⟨⟨pg, hd, po, sa⟩, ha, hn, htk, hm⟩
theorem isi1_mk (hC : mg cn = some (.ref C)) (cf : CF K C) (oo : PySem.W.kitOne K (.ref C) (.ref C) = some true) (b1 : PySem.W.kitOne K (.type "int") (.ref C) = some false) (b2 : PySem.W.kitOne K (.type "str") (.ref C) = some false) (b3 : PySem.W.kitOne K (.type "list") (.ref C) = some false)
    (b4 : PySem.W.kitOne K (.type "tuple") (.ref C) = some false) (b5 : PySem.W.kitOne K (.type "dict") (.ref C) = some false) (b6 : PySem.W.kitOne K (.type "bool") (.ref C) = some false) (b7 : PySem.W.kitOne K (.type "NoneType") (.ref C) = some false)
    (d1 : PySem.W.kitOne K (.ref C) (.type "int") = some false) (d2 : PySem.W.kitOne K (.ref C) (.type "str") = some false) (d3 : PySem.W.kitOne K (.ref C) (.type "list") = some false) (d4 : PySem.W.kitOne K (.ref C) (.type "tuple") = some false) (d5 : PySem.W.kitOne K (.ref C) (.type "dict") = some false)
    (d6 : PySem.W.kitOne K (.ref C) (.type "bool") = some false) : Isi ⟨mg, K⟩ [cn] where
  cf n C' h hn := by
    cases List.mem_singleton.mp h
    cases hC.symm.trans hn
    exact cf
  oo n m C1 C2 h h' hn hm := by
    cases List.mem_singleton.mp h
    cases List.mem_singleton.mp h'
    cases hC.symm.trans hn
    cases hC.symm.trans hm
    rw [oo]; simp
  bo t m C' h hn := by
    cases List.mem_singleton.mp h
    cases hC.symm.trans hn
    cases t <;> assumption
  ob n C' t h hn ne := by
    cases List.mem_singleton.mp h
    cases hC.symm.trans hn
    cases t <;> first | assumption | exact absurd rfl ne
theorem nf1_mk (hC : mg cn = some (.ref C)) (o : PySem.W.notFirst K C (.ref C) = true) (b1 : PySem.W.notFirst K C (.type "int") = true) (b2 : PySem.W.notFirst K C (.type "str") = true) (b3 : PySem.W.notFirst K C (.type "list") = true) (b4 : PySem.W.notFirst K C (.type "tuple") = true)
    (b5 : PySem.W.notFirst K C (.type "dict") = true) (b6 : PySem.W.notFirst K C (.type "bool") = true) (b7 : PySem.W.notFirst K C (.type "NoneType") = true) : NotF ⟨mg, K⟩ [cn] C where
  own n C' h hn := by
    cases List.mem_singleton.mp h
    cases hC.symm.trans hn
    exact o
  blt t := by cases t <;> assumption
/-- law itself -/
theorem fn_end {nm : List Str} {par : Str} {fa : Addr} {k : Nat} {body : SS} (F : FT K mg x st) (hfa : mg x = some (.ref fa)) (S : FnScope nm [par] (defScope st))
    (hb : ∀ (kV doc pm : Value) (an : Option Addr) (cdv ct u : Value), bindArgs (PySem.W.fnOf x x (defArgs st) (defBody st) (defScope st) .none kV doc pm an cdv ct) ⟨[u], []⟩ = pure [(par, u)])
    (hbody : ∀ (base : Heap) (f : Addr) (cdv : Value) (A : Around) (outer : List PySem.Env) (s : Shared) (H : Hp) (E : XK), Room k (A.deeper (envOfC x (defScope st) s.heap.objs.size f cdv)) → A.guards = some [] →
      PSs (cxOf CX0 P w K mg base nm x (defScope st) f cdv A outer s H E).nox (defBody st) (tS ⟨mg, K⟩ body)) :
    ∃ fd : FuncData, (∀ (s : Shared) (u : Value), BindsTo s fd ⟨[u], []⟩ [(par, u)]) ∧ ∀ base : Heap, FnD P w K mg base (k + 1) fa fd [par] (spM ⟨mg, K⟩ (fnM 1 nm.length body) 1) := by
  obtain ⟨f, fd, hm, F⟩ := F
  cases hfa.symm.trans hm
  refine ⟨fd, fun s u => ?_, fun base => fn_MD F S fun cdv A outer s H E hr hg => hbody base fa cdv A outer s H E hr hg⟩
  obtain ⟨_, _, kV, doc, pm, an, cdv, ct, _, rfl, _, _⟩ := F.ex
  exact .of_eq (hb kV doc pm an cdv ct u)
end
end LW

/-! LwP: how a mirror runs, told backwards. -/
namespace LW
open PySem L2
inductive Ok {α : Type} (o : Option (α × Sto)) (Q : α → Sto → Prop) : Prop where
  | mk (a : α) (s : Sto) (e : o = some (a, s)) (h : Q a s)
inductive Od {α : Type} (o : Option α) (Q : α → Prop) : Prop where
  | mk (a : α) (e : o = some a) (h : Q a)
@[reducible] def AsB : D → (Bool → Prop) → Prop
  | .bl b, Q => Q b
  | _, _ => False
@[reducible] def AsI : D → (Int → Prop) → Prop
  | .int b, Q => Q b
  | _, _ => False
@[reducible] def AsK : D → (Nat → Prop) → Prop
  | .cell b, Q => Q b
  | _, _ => False
@[reducible] def AsO : D → (Str → List Str → List D → Prop) → Prop
  | .obj c n v, Q => Q c n v
  | _, _ => False
theorem AsB.of {d : D} {Q : Bool → Prop} (h : AsB d Q) : ∃ b, d = .bl b ∧ Q b := by
  cases d <;> first | exact ⟨_, rfl, h⟩ | exact h.elim
theorem AsI.of {d : D} {Q : Int → Prop} (h : AsI d Q) : ∃ b, d = .int b ∧ Q b := by
  cases d <;> first | exact ⟨_, rfl, h⟩ | exact h.elim
theorem AsK.of {d : D} {Q : Nat → Prop} (h : AsK d Q) : ∃ b, d = .cell b ∧ Q b := by
  cases d <;> first | exact ⟨_, rfl, h⟩ | exact h.elim
theorem AsO.of {d : D} {Q : Str → List Str → List D → Prop} (h : AsO d Q) : ∃ a b c, d = .obj a b c ∧ Q a b c := by
  cases d <;> first | exact ⟨_, _, _, rfl, h⟩ | exact h.elim
theorem b_dec {p : Prop} [Decidable p] {A B : Prop} (h1 : p → A) (h2 : ¬ p → B) : if decide p = true then A else B := by
  by_cases h : p
  · rw [decide_eq_true h, if_pos rfl]
    exact h1 h
  · rw [decide_eq_false h, if_neg Bool.false_ne_true]
    exact h2 h
theorem b_t {b : Bool} {A B : Prop} (h : b = true) (h1 : A) : if b = true then A else B := by rw [if_pos h]; exact h1
theorem b_f {b : Bool} {A B : Prop} (h : b = false) (h1 : B) : if b = true then A else B := by rw [h, if_neg Bool.false_ne_true]; exact h1
theorem Ok.mono {α : Type} {o : Option (α × Sto)} {Q R : α → Sto → Prop} (h : Ok o Q) (k : ∀ a s, Q a s → R a s) : Ok o R := by
  obtain ⟨a, s, e, q⟩ := h
  exact ⟨a, s, e, k a s q⟩
theorem Ok.eq {α : Type} {o : Option (α × Sto)} {a : α} {s : Sto} (h : Ok o fun x t => x = a ∧ t = s) : o = some (a, s) := by
  obtain ⟨_, _, e, rfl, rfl⟩ := h
  exact e
theorem Ok.use {α : Type} {o : Option (α × Sto)} {a : α} {s : Sto} {Q : α → Sto → Prop} (e : o = some (a, s)) (h : Q a s) : Ok o Q := ⟨a, s, e, h⟩
section
variable {env : Env} {st : Sto} {Q : D → Sto → Prop} {QB : Bool → Sto → Prop} {QL : List D → Sto → Prop} {QS : Out → Sto → Prop} {i : Nat} {d : D} {fa fb fe : SE} {fs gs : SA} {fl : Fx (List D)} {ta tb : SB} {xs : List D}
theorem z_var (e : env[i]? = some (.val d)) (h : Q d st) : Ok (eVar i env st) Q := ⟨d, st, by unfold eVar; rw [e], h⟩
theorem z_pk (e : env[i]? = some (.val d)) (h : Q d st) : Ok (ePeek i env st) Q := ⟨d, st, by unfold ePeek; rw [e], h⟩
theorem z_pkO (e : env[i]? = some (.own xs)) (h : Q (.lst xs) st) : Ok (ePeek i env st) Q := ⟨_, st, by unfold ePeek; rw [e], h⟩
theorem z_c (h : Q d st) : Ok (eC d env st) Q := ⟨d, st, rfl, h⟩
theorem z_op {α : Type} {op : D → D → Sto → Option α} {Q : α → Sto → Prop} (h : Ok (fa env st) fun x s1 => Ok (fb env s1) fun y s2 => Od (op x y s2) fun d => Q d s2) : Ok (eOp op fa fb env st) Q := by
  obtain ⟨x, s1, e1, y, s2, e2, d, e3, q⟩ := h
  exact ⟨d, s2, by unfold eOp; rw [e1]; dsimp only; rw [e2]; dsimp only; rw [e3], q⟩
theorem z_nil (h : QL [] st) : Ok (aNil env st) QL := ⟨_, st, rfl, h⟩
theorem z_cons (h : Ok (fe env st) fun d s1 => Ok (fs env s1) fun ds s2 => QL (d :: ds) s2) : Ok (aCons fe fs env st) QL := by
  obtain ⟨x, s1, e1, y, s2, e2, q⟩ := h
  exact ⟨_, s2, by unfold aCons; rw [e1]; dsimp only; rw [e2], q⟩
theorem z_tup (h : Ok (fs env st) fun ds s => ds.length ≤ 1000000 ∧ Q (.tup ds) s) : Ok (eTup fs env st) Q := by
  obtain ⟨x, s1, e1, l, q⟩ := h
  exact ⟨_, s1, by unfold eTup; rw [e1]; dsimp only; rw [if_pos l], q⟩
theorem z_lst (h : Ok (fs env st) fun ds s => ds.length ≤ 1000000 ∧ QL ds s) : Ok (lDisp fs env st) QL := by
  obtain ⟨x, s1, e1, l, q⟩ := h
  exact ⟨_, s1, by unfold lDisp; rw [e1]; dsimp only; rw [if_pos l], q⟩
theorem z_L (h : Ok (fl env st) fun ds s => Q (.lst ds) s) : Ok (eL fl env st) Q := by
  obtain ⟨x, s1, e1, q⟩ := h
  exact ⟨_, s1, by unfold eL; rw [e1]; rfl, q⟩
theorem z_bi {α : Type} {g : List D → Sto → Option α} {Q : α → Sto → Prop} (h : Ok (fs env st) fun ds s => Od (g ds s) fun d => Q d s) : Ok (eBi g fs env st) Q := by
  obtain ⟨x, s1, e1, d, e2, q⟩ := h
  exact ⟨d, s1, by unfold eBi; rw [e1]; dsimp only; rw [e2], q⟩
theorem z_call {g : FM} {dd : List D} (h : Ok (fs env st) fun ds s => Ok (g (ds ++ dd) s) Q) : Ok (eCall g dd fs env st) Q := by
  obtain ⟨x, s1, e1, d, s2, e2, q⟩ := h
  exact ⟨d, s2, by unfold eCall; rw [e1]; exact e2, q⟩
theorem z_meth {cn m : Str} {g : FM} {dd : List D} (h : Ok (fe env st) fun o s1 => AsO o fun c ns vs => c = cn ∧ ¬ m ∈ ns ∧ Ok (fs env s1) fun ds s2 => Ok (g (.obj c ns vs :: (ds ++ dd)) s2) Q) : Ok (eMeth cn m g dd fe fs env st) Q := by
  obtain ⟨o, s1, e1, h⟩ := h
  obtain ⟨c, ns, vs, rfl, rfl, hm, ds, s2, e2, d, s3, e3, q⟩ := h.of
  exact ⟨d, s3, by unfold eMeth; rw [e1]; dsimp only; rw [if_pos ⟨rfl, hm⟩, e2]; exact e3, q⟩
theorem z_prop {cn : Str} {g : FM} (h : Ok (fe env st) fun o s1 => AsO o fun c ns vs => c = cn ∧ Ok (g [.obj c ns vs] s1) Q) : Ok (eProp cn g fe env st) Q := by
  obtain ⟨o, s1, e1, h⟩ := h
  obtain ⟨c, ns, vs, rfl, rfl, d, s3, e3, q⟩ := h.of
  exact ⟨d, s3, by unfold eProp; rw [e1]; dsimp only; rw [if_pos rfl]; exact e3, q⟩
theorem z_fld {cn m : Str} (h : Ok (fe env st) fun o s1 => AsO o fun c ns vs => c = cn ∧ Od (fldD m ns vs) fun d => Q d s1) : Ok (eFld cn m fe env st) Q := by
  obtain ⟨o, s1, e1, h⟩ := h
  obtain ⟨c, ns, vs, rfl, rfl, d, e3, q⟩ := h.of
  exact ⟨d, s1, by unfold eFld; rw [e1]; dsimp only; rw [if_pos rfl, e3], q⟩
theorem z_make {cn : Str} {g : FI} {dd : List D} (h : Ok (fs env st) fun ds s => Ok (g (ds ++ dd) s) fun r s2 => Q (.obj cn r.1 r.2) s2) : Ok (eMake cn g dd fs env st) Q := by
  obtain ⟨x, s1, e1, r, s2, e2, q⟩ := h
  exact ⟨_, s2, by unfold eMake; rw [e1]; dsimp only; rw [e2], q⟩
theorem z_and (h : Ok (fa env st) fun d s1 => AsB d fun b => if b = true then Ok (fb env s1) Q else Q (.bl false) s1) : Ok (eAnd fa fb env st) Q := by
  obtain ⟨o, s1, e1, h⟩ := h
  obtain ⟨b, rfl, h⟩ := h.of
  cases b with
  | true =>
    obtain ⟨d, s2, e2, q⟩ := h
    exact ⟨d, s2, by unfold eAnd; rw [e1]; exact e2, q⟩
  | false => exact ⟨_, s1, by unfold eAnd; rw [e1], h⟩
theorem z_or (h : Ok (fa env st) fun d s1 => AsB d fun b => if b = true then Q (.bl true) s1 else Ok (fb env s1) Q) : Ok (eOr fa fb env st) Q := by
  obtain ⟨o, s1, e1, h⟩ := h
  obtain ⟨b, rfl, h⟩ := h.of
  cases b with
  | false =>
    obtain ⟨d, s2, e2, q⟩ := h
    exact ⟨d, s2, by unfold eOr; rw [e1]; exact e2, q⟩
  | true => exact ⟨_, s1, by unfold eOr; rw [e1], h⟩
theorem z_not (h : Ok (fa env st) fun d s1 => AsB d fun b => Q (.bl (!b)) s1) : Ok (eNot fa env st) Q := by
  obtain ⟨o, s1, e1, h⟩ := h
  obtain ⟨b, rfl, h⟩ := h.of
  exact ⟨_, s1, by unfold eNot; rw [e1], h⟩
theorem z_neg (h : Ok (fa env st) fun d s1 => AsI d fun b => Q (.int (-b)) s1) : Ok (eNeg fa env st) Q := by
  obtain ⟨o, s1, e1, h⟩ := h
  obtain ⟨b, rfl, h⟩ := h.of
  exact ⟨_, s1, by unfold eNeg; rw [e1], h⟩
theorem z_bits (h : Ok (fa env st) fun d s1 => AsI d fun b => Q (.int (Builtin.Int.intBits b : Nat)) s1) : Ok (eBits fa env st) Q := by
  obtain ⟨o, s1, e1, h⟩ := h
  obtain ⟨b, rfl, h⟩ := h.of
  exact ⟨_, s1, by unfold eBits; rw [e1], h⟩
theorem z_eif {α : Type} {f g : Fx α} {Q : α → Sto → Prop} (h : Ok (ta env st) fun b s1 => if b = true then Ok (f env s1) Q else Ok (g env s1) Q) : Ok (eIf ta f g env st) Q := by
  obtain ⟨b, s1, e1, h⟩ := h
  cases b with
  | true =>
    obtain ⟨d, s2, e2, q⟩ := h
    exact ⟨d, s2, by unfold eIf; rw [e1]; exact e2, q⟩
  | false =>
    obtain ⟨d, s2, e2, q⟩ := h
    exact ⟨d, s2, by unfold eIf; rw [e1]; exact e2, q⟩
theorem t_of (h : Ok (fe env st) fun d s => AsB d fun b => QB b s) : Ok (bOf fe env st) QB := by
  obtain ⟨o, s1, e1, h⟩ := h
  obtain ⟨b, rfl, h⟩ := h.of
  exact ⟨_, s1, by unfold bOf; rw [e1], h⟩
theorem t_and (h : Ok (ta env st) fun b s => if b = true then Ok (tb env s) QB else QB false s) : Ok (bAnd ta tb env st) QB := by
  obtain ⟨b, s1, e1, h⟩ := h
  cases b with
  | true =>
    obtain ⟨d, s2, e2, q⟩ := h
    exact ⟨d, s2, by unfold bAnd; rw [e1]; exact e2, q⟩
  | false => exact ⟨_, s1, by unfold bAnd; rw [e1], h⟩
theorem t_or (h : Ok (ta env st) fun b s => if b = true then QB true s else Ok (tb env s) QB) : Ok (bOr ta tb env st) QB := by
  obtain ⟨b, s1, e1, h⟩ := h
  cases b with
  | false =>
    obtain ⟨d, s2, e2, q⟩ := h
    exact ⟨d, s2, by unfold bOr; rw [e1]; exact e2, q⟩
  | true => exact ⟨_, s1, by unfold bOr; rw [e1], h⟩
theorem t_not (h : Ok (ta env st) fun b s => QB (!b) s) : Ok (bNot ta env st) QB := by
  obtain ⟨b, s1, e1, h⟩ := h
  exact ⟨_, s1, by unfold bNot; rw [e1], h⟩
theorem z_slN {α : Type} {op : D → Option Int → Option Int → Sto → Option α} {lo hi : SO} {Q : α → Sto → Prop} (h : Ok (fe env st) fun x s1 => Ok (lo env s1) fun l s2 => Ok (hi env s2) fun u s3 => Od (op x l u s3) fun d => Q d s3) : Ok (eSl op fe lo hi env st) Q := by
  obtain ⟨x, s1, e1, l, s2, e2, u, s3, e3, d, e4, q⟩ := h
  exact ⟨d, s3, by unfold eSl; rw [e1]; dsimp only; rw [e2]; dsimp only; rw [e3]; dsimp only; rw [e4], q⟩
theorem z_oN {Q : Option Int → Sto → Prop} (h : Q none st) : Ok (oNone env st) Q := ⟨_, st, rfl, h⟩
theorem z_oS {Q : Option Int → Sto → Prop} (h : Ok (fe env st) fun d s => AsI d fun i => Q (some i) s) : Ok (oSome fe env st) Q := by
  obtain ⟨o, s1, e1, h⟩ := h
  obtain ⟨b, rfl, h⟩ := h.of
  exact ⟨_, s1, by unfold oSome; rw [e1], h⟩
/-! statements -/
variable {f g : SS}
theorem z_snil (h : QS (.nx env) st) : Ok (sNil env st) QS := ⟨_, st, rfl, h⟩
theorem z_seq (h : Ok (f env st) fun o s1 => match o with
    | .nx e => Ok (g e s1) QS
    | o => QS o s1) : Ok (sSeq f g env st) QS := by
  obtain ⟨o, s1, e1, h⟩ := h
  cases o with
  | nx e =>
    obtain ⟨d, s2, e2, q⟩ := h
    exact ⟨d, s2, by unfold sSeq; rw [e1]; exact e2, q⟩
  | rt d => exact ⟨_, s1, by unfold sSeq; rw [e1], h⟩
  | bk d => exact ⟨_, s1, by unfold sSeq; rw [e1], h⟩
  | ct d => exact ⟨_, s1, by unfold sSeq; rw [e1], h⟩
theorem z_set (h : Ok (fe env st) fun d s => QS (.nx (env.set i (.val d))) s) : Ok (sSet i fe env st) QS := by
  obtain ⟨d, s1, e1, h⟩ := h
  exact ⟨_, s1, by unfold sSet; rw [e1], h⟩
theorem z_own (h : Ok (fl env st) fun d s => QS (.nx (env.set i (.own d))) s) : Ok (sOwn i fl env st) QS := by
  obtain ⟨d, s1, e1, h⟩ := h
  exact ⟨_, s1, by unfold sOwn; rw [e1], h⟩
theorem z_ret (h : Ok (fe env st) fun d s => QS (.rt d) s) : Ok (sRet fe env st) QS := by
  obtain ⟨d, s1, e1, h⟩ := h
  exact ⟨_, s1, by unfold sRet; rw [e1], h⟩
theorem z_retC (h : Ok (fl env st) fun xs s => QS (.rt (.cell s.length)) (s ++ [xs])) : Ok (sRetC fl env st) QS := by
  obtain ⟨d, s1, e1, h⟩ := h
  exact ⟨_, _, by unfold sRetC; rw [e1], h⟩
theorem z_retO (e : env[i]? = some (.own xs)) (h : QS (.rt (.cell st.length)) (st ++ [xs])) : Ok (sRetO i env st) QS := ⟨_, _, by unfold sRetO; rw [e], h⟩
theorem z_drop (h : Ok (fe env st) fun _ s => QS (.nx env) s) : Ok (sDrop fe env st) QS := by
  obtain ⟨d, s1, e1, h⟩ := h
  exact ⟨_, s1, by unfold sDrop; rw [e1], h⟩
theorem z_sif (h : Ok (ta env st) fun b s1 => if b = true then Ok (f env s1) QS else Ok (g env s1) QS) : Ok (sIf ta f g env st) QS := by
  obtain ⟨b, s1, e1, h⟩ := h
  cases b with
  | true =>
    obtain ⟨d, s2, e2, q⟩ := h
    exact ⟨d, s2, by unfold sIf; rw [e1]; exact e2, q⟩
  | false =>
    obtain ⟨d, s2, e2, q⟩ := h
    exact ⟨d, s2, by unfold sIf; rw [e1]; exact e2, q⟩
theorem z_frz (h : Ok (f (frz i env) st) QS) : Ok (sFrz i f env st) QS := h
theorem z_app (h : Ok (fe env st) fun d s => ∃ xs, env[i]? = some (.own xs) ∧ xs.length < 1000000 ∧ QS (.nx (env.set i (.own (xs ++ [d])))) s) : Ok (sApp i fe env st) QS := by
  obtain ⟨d, s1, e1, xs, e2, l, h⟩ := h
  exact ⟨_, s1, by unfold sApp; rw [e1]; dsimp only; rw [e2]; dsimp only; rw [if_pos l], h⟩
theorem z_appC (h : Ok (fa env st) fun o s => AsK o fun k => Ok (fe env s) fun d s2 => ∃ xs, s2[k]? = some xs ∧ xs.length < 1000000 ∧ QS (.nx env) (s2.set k (xs ++ [d]))) : Ok (sAppC fa fe env st) QS := by
  obtain ⟨o, s1, e1, h⟩ := h
  obtain ⟨k, rfl, d, s2, e2, xs, e3, l, q⟩ := h.of
  exact ⟨_, _, by unfold sAppC; rw [e1]; dsimp only; rw [e2]; dsimp only; rw [e3]; dsimp only; rw [if_pos l], q⟩
theorem z_putC {fj : SE} (h : Ok (fe env st) fun d s1 => Ok (fa env s1) fun o s2 => AsK o fun k => Ok (fj env s2) fun j s3 => AsI j fun j => ∃ xs n, s3[k]? = some xs ∧ ixN xs.length j = some n ∧ QS (.nx env) (s3.set k (xs.set n d))) : Ok (sPutC fa fj fe env st) QS := by
  obtain ⟨d, s1, e1, o, s2, e2, h⟩ := h
  obtain ⟨k, rfl, o, s3, e3, h⟩ := h.of
  obtain ⟨j, rfl, xs, n, e4, e5, q⟩ := h.of
  exact ⟨_, _, by unfold sPutC; rw [e1]; dsimp only; rw [e2]; dsimp only; rw [e3]; dsimp only; rw [e4]; dsimp only; rw [e5], q⟩
theorem z_for {fi : Fx Src} {asg : D → Env → Option Env} (h : Ok (fi env st) fun xs s1 => Ok (loopM xs.2 asg f xs.1 env s1) QS) : Ok (sFor fi asg f env st) QS := by
  obtain ⟨xs, s1, e1, o, s2, e2, q⟩ := h
  exact ⟨o, s2, by unfold sFor; rw [e1]; exact e2, q⟩
theorem z_lc {fi : Fx Src} {asg : D → Env → Option Env} {vs : List Nat} (h : Ok (fi env st) fun xs s1 => xs.1.length ≤ 1000000 ∧ Ok (compM xs.2 asg ta fe (wipeE env vs) xs.1 s1) QL) : Ok (lComp fi asg ta fe vs env st) QL := by
  obtain ⟨xs, s1, e1, l, o, s2, e2, q⟩ := h
  exact ⟨o, s2, by unfold lComp; rw [e1]; dsimp only; rw [if_pos l]; exact e2, q⟩
theorem z_yes (h : QB true st) : Ok (bYes env st) QB := ⟨_, st, rfl, h⟩
theorem z_kv {Q : Sl → Sto → Prop} (h : Ok (fe env st) fun d s => Q (.val d) s) : Ok (Kd.run (.val fe) env st) Q := by
  obtain ⟨d, s1, e1, h⟩ := h
  exact ⟨_, s1, by unfold Kd.run; dsimp only; rw [e1], h⟩
theorem z_ko {Q : Sl → Sto → Prop} (h : Ok (fl env st) fun d s => Q (.own d) s) : Ok (Kd.run (.own fl) env st) Q := by
  obtain ⟨d, s1, e1, h⟩ := h
  exact ⟨_, s1, by unfold Kd.run; dsimp only; rw [e1], h⟩
theorem z_par {j : Nat} {a b : Kd} (h : Ok (a.run env st) fun x s1 => Ok (b.run env s1) fun y s2 => i ≠ j ∧ QS (.nx ((env.set i x).set j y)) s2) : Ok (sPar i j a b env st) QS := by
  obtain ⟨x, s1, e1, y, s2, e2, n, q⟩ := h
  exact ⟨_, _, by unfold sPar; rw [e1]; dsimp only; rw [e2]; dsimp only; rw [if_neg n], q⟩
theorem z_unp {is : List Nat} (h : Ok (fe env st) fun d s => ∃ ds e, d = .tup ds ∧ setAll is ds env = some e ∧ QS (.nx e) s) : Ok (sUnp is fe env st) QS := by
  obtain ⟨d, s1, e1, ds, e, rfl, e2, q⟩ := h
  exact ⟨_, _, by unfold sUnp; rw [e1]; dsimp only; rw [e2], q⟩
theorem z_sfld {cn m : Str} (h : Ok (fe env st) fun d s => ∃ ns vs, env[i]? = some (.ownI cn ns vs) ∧ ns.length < 1000 ∧ QS (.nx (env.set i (.ownI cn (putD m d ns vs).1 (putD m d ns vs).2))) s) : Ok (sFld cn i m fe env st) QS := by
  obtain ⟨d, s1, e1, ns, vs, e2, l, q⟩ := h
  exact ⟨_, s1, by unfold sFld; rw [e1]; dsimp only; rw [e2]; dsimp only; rw [if_pos ⟨rfl, l⟩], q⟩
theorem z_fn {n m : Nat} {ds : List D} (hl : ds.length = n) (h : Ok (f (env0 m ds) st) fun o s => match o with
    | .rt d => Q d s
    | .nx _ => Q .non s
    | _ => False) : Ok (fnM n m f ds st) Q := by
  obtain ⟨o, s1, e1, h⟩ := h
  cases o with
  | nx e => exact ⟨_, s1, by unfold fnM; rw [if_pos hl, e1], h⟩
  | rt d => exact ⟨_, s1, by unfold fnM; rw [if_pos hl, e1], h⟩
  | bk d => exact h.elim
  | ct d => exact h.elim
/-! the sources of loops -/
variable {QI : Src → Sto → Prop}
theorem z_rg1 (h : Ok (fs env st) fun ds s => ∃ j, ds = [.int j] ∧ inR j = true ∧ QI (rangeD 0 1 j.toNat, noChk) s) : Ok (iRg1 fs env st) QI := by
  obtain ⟨ds, s1, e1, j, rfl, r, q⟩ := h
  exact ⟨_, s1, by unfold iRg1; rw [e1]; dsimp only; rw [if_pos r], q⟩
theorem z_seqI (h : Ok (fe env st) fun d s => ∃ xs, (d = .lst xs ∨ d = .tup xs) ∧ QI (xs, noChk) s) : Ok (iSeq fe env st) QI := by
  obtain ⟨d, s1, e1, xs, rfl | rfl, q⟩ := h
  · exact ⟨_, s1, by unfold iSeq; rw [e1], q⟩
  · exact ⟨_, s1, by unfold iSeq; rw [e1], q⟩
theorem z_seqC (h : Ok (fe env st) fun d s => ∃ k ns, d = .cell k ∧ lstI s (.cell k) = some ns ∧ QI (ns.map D.int, fun s => decide (lstI s (.cell k) = some ns)) s) : Ok (iSeq fe env st) QI := by
  obtain ⟨d, s1, e1, k, ns, rfl, e2, q⟩ := h
  exact ⟨_, s1, by unfold iSeq; rw [e1]; dsimp only; rw [e2], q⟩
theorem z_rg2 (h : Ok (fs env st) fun ds s => ∃ i j, ds = [.int i, .int j] ∧ inR i = true ∧ inR j = true ∧ QI (rangeD i 1 (j - i).toNat, noChk) s) : Ok (iRg2 fs env st) QI := by
  obtain ⟨ds, s1, e1, i, j, rfl, r, r', q⟩ := h
  exact ⟨_, s1, by unfold iRg2; rw [e1]; dsimp only; rw [if_pos ⟨r, r'⟩], q⟩
end
section
variable {s : Sto} {Q : D → Prop} {i j : Int}
theorem u_add (h : Q (.int (i + j))) : Od (oAdd (.int i) (.int j) s) Q := ⟨_, rfl, h⟩
theorem u_sub (h : Q (.int (i - j))) : Od (oSub (.int i) (.int j) s) Q := ⟨_, rfl, h⟩
theorem u_mul (c : mulC i j = true) (h : Q (.int (i * j))) : Od (oMul (.int i) (.int j) s) Q := ⟨_, if_pos c, h⟩
theorem u_mod (c : 0 < j) (h : Q (.int (i % j))) : Od (oMod (.int i) (.int j) s) Q := ⟨_, if_pos (decide_eq_true c), h⟩
theorem u_div (c : divC i j = true) (h : Q (.int (i / j))) : Od (oDiv (.int i) (.int j) s) Q := ⟨_, if_pos c, h⟩
theorem u_pow (c : powC i j = true) (h : Q (.int (i ^ j.toNat))) : Od (oPow (.int i) (.int j) s) Q := ⟨_, if_pos c, h⟩
theorem u_lt (h : Q (.bl (decide (i < j)))) : Od (oLt (.int i) (.int j) s) Q := ⟨_, rfl, h⟩
theorem u_le (h : Q (.bl (decide (i ≤ j)))) : Od (oLe (.int i) (.int j) s) Q := ⟨_, rfl, h⟩
theorem u_gt (h : Q (.bl (decide (j < i)))) : Od (oGt (.int i) (.int j) s) Q := ⟨_, rfl, h⟩
theorem u_ge (h : Q (.bl (decide (j ≤ i)))) : Od (oGe (.int i) (.int j) s) Q := ⟨_, rfl, h⟩
theorem u_eq {x y : D} {p q : PyData} (hx : toPy 60 s x = some p) (hy : toPy 60 s y = some q) (h : Q (.bl (PyData.eqv p q))) : Od (oEq x y s) Q := ⟨_, by unfold oEq; rw [hx, hy], h⟩
theorem u_ne {x y : D} {p q : PyData} (hx : toPy 60 s x = some p) (hy : toPy 60 s y = some q) (h : Q (.bl (!PyData.eqv p q))) : Od (oNe x y s) Q := ⟨_, by unfold oNe; rw [hx, hy], h⟩
theorem u_isN {x : D} (h : Q (.bl (isNonD x))) : Od (oIsN x .non s) Q := ⟨_, rfl, h⟩
theorem u_notN {x : D} (h : Q (.bl (!isNonD x))) : Od (oNotN x .non s) Q := ⟨_, rfl, h⟩
theorem u_ixT {xs : List D} {d : D} (e : atI xs i = some d) (h : Q d) : Od (oIx (.tup xs) (.int i) s) Q := ⟨_, e, h⟩
theorem u_ixL {xs : List D} {d : D} (e : atI xs i = some d) (h : Q d) : Od (oIx (.lst xs) (.int i) s) Q := ⟨_, e, h⟩
theorem u_ixF {xs : List D} {d : D} (e : atI xs i = some d) (h : Q d) : Od (oIx (.fro xs) (.int i) s) Q := ⟨_, e, h⟩
theorem u_ixC {xs : List D} {d : D} {k : Nat} (hk : s[k]? = some xs) (e : atI xs i = some d) (h : Q d) : Od (oIx (.cell k) (.int i) s) Q := ⟨d, by show (match s[k]? with | some xs => atI xs i | none => none) = _; rw [hk]; exact e, h⟩
theorem u_now {α : Type} {o : Option α} {a : α} {Q : α → Prop} (e : o = some a) (h : Q a) : Od o Q := ⟨a, e, h⟩
end
theorem inR_t {i : Int} (h : -(2 ^ 62) ≤ i) (h' : i < 2 ^ 62) : inR i = true := by
  unfold inR
  rw [decide_eq_true h, decide_eq_true h']
  rfl
theorem mulC_r {i j : Int} (h : -(2 ^ 64) < j) (h' : j < 2 ^ 64) : mulC i j = true := by
  unfold mulC
  rw [decide_eq_true h, decide_eq_true h']
  simp
theorem mulC_l {i j : Int} (h : -(2 ^ 64) < i) (h' : i < 2 ^ 64) : mulC i j = true := by
  unfold mulC
  rw [decide_eq_true h, decide_eq_true h']
  simp
theorem divC_t {i j : Int} (h : 0 < j) (h' : j.natAbs < 2 ^ 9000) : divC i j = true := by
  unfold divC
  rw [decide_eq_true h, decide_eq_true ((Nat.log2_lt (by omega)).mpr h')]
  rfl
theorem divC_s {i j : Int} (h : 0 < j) (h' : j < 2 ^ 100) : divC i j = true :=
  divC_t h (Nat.lt_of_lt_of_le (m := 2 ^ 100) (by omega) (Nat.pow_le_pow_right (by decide) (by decide)))
theorem loop_inv {chk : Sto → Bool} {asg : D → Env → Option Env} {body : SS} (I : Nat → Env → Sto → Prop) : ∀ (xs : List D) (n : Nat) (env : Env) (st : Sto), I n env st →
    (∀ (i : Nat) (x : D) (e : Env) (s : Sto), xs[i]? = some x → I (n + i) e s → chk s = true ∧ ∃ e1, asg x e = some e1 ∧ Ok (body e1 s) fun o s2 => ∃ e2, (o = .nx e2 ∨ o = .ct e2) ∧ I (n + i + 1) e2 s2) → (∀ e s, I (n + xs.length) e s → chk s = true) →
    Ok (loopM chk asg body xs env st) fun o s' => ∃ e', o = .nx e' ∧ I (n + xs.length) e' s'
  | [], n, env, st, h, _, hc => ⟨_, st, by unfold loopM; rw [if_pos (hc _ _ h)], env, rfl, h⟩
  | x :: xs, n, env, st, h, hs, hc => by
    obtain ⟨c, e1, a1, o, s2, b, e2, ho, h2⟩ := hs 0 x env st rfl h
    obtain ⟨o', s', r, e', rfl, q⟩ := loop_inv I xs (n + 1) e2 s2 h2 (fun i y e s hi z => by
      have := hs (i + 1) y e s hi (by rwa [show n + (i + 1) = n + 1 + i by omega])
      rwa [show n + (i + 1) + 1 = n + 1 + i + 1 by omega] at this) (fun e s z => hc e s (by rwa [List.length_cons, show n + (xs.length + 1) = n + 1 + xs.length by omega]))
    refine ⟨_, s', ?_, e', rfl, by rwa [List.length_cons, show n + (xs.length + 1) = n + 1 + xs.length by omega]⟩
    unfold loopM
    rw [if_pos c, a1]
    dsimp only
    rw [b]
    rcases ho with rfl | rfl
    · exact r
    · exact r
/-- a comprehension whose store does not change -/
theorem comp_map {chk : Sto → Bool} {asg : D → Env → Option Env} {cond : SB} {elt : SE} {env0 : Env} {st : Sto} (p : D → Bool) (f : D → D) (hc : chk st = true) : ∀ (xs : List D),
    (∀ x ∈ xs, ∃ e1, asg x env0 = some e1 ∧ cond e1 st = some (p x, st) ∧ (p x = true → elt e1 st = some (f x, st))) → compM chk asg cond elt env0 xs st = some ((xs.filter p).map f, st)
  | [], _ => by unfold compM; rw [if_pos hc]; rfl
  | x :: xs, h => by
    obtain ⟨e1, a, c, e⟩ := h x (List.mem_cons_self ..)
    have ih := comp_map p f hc xs fun y hy => h y (List.mem_cons_of_mem _ hy)
    unfold compM
    rw [if_pos hc, a]
    dsimp only
    rw [c]
    cases hp : p x with
    | false =>
      dsimp only
      rw [ih, List.filter_cons_of_neg (by simp [hp])]
    | true =>
      dsimp only
      rw [e hp]
      dsimp only
      rw [ih, List.filter_cons_of_pos hp]
      rfl
end LW

/-! LwQ: how a mirror runs, II: comprehensions, makers, lists. -/
namespace LW
open PySem L2
theorem comp_inv {chk : Sto → Bool} {asg : D → Env → Option Env} {cond : SB} {elt : SE} {env0 : Env} (I : List D → Sto → Prop) : ∀ (xs : List D) (acc : List D) (st : Sto), I acc st →
    (∀ x ∈ xs, ∀ acc s, I acc s → ∃ e1, asg x env0 = some e1 ∧ Ok (cond e1 s) fun b s1 => if b = true then Ok (elt e1 s1) fun y s2 => I (acc ++ [y]) s2 else I acc s1) → (∀ acc s, I acc s → chk s = true) →
    Ok (compM chk asg cond elt env0 xs st) fun ys s => I (acc ++ ys) s
  | [], acc, st, h, _, hc => ⟨_, st, by unfold compM; rw [if_pos (hc _ _ h)], by rw [List.append_nil]; exact h⟩
  | x :: xs, acc, st, h, hs, hc => by
    obtain ⟨e1, a1, b, s1, hb, h1⟩ := hs x (List.mem_cons_self ..) acc st h
    cases b with
    | false =>
      obtain ⟨ys, s2, r, q⟩ := comp_inv I xs acc s1 h1 (fun y hy => hs y (List.mem_cons_of_mem _ hy)) hc
      exact ⟨ys, s2, by unfold compM; rw [if_pos (hc _ _ h), a1]; dsimp only; rw [hb]; exact r, q⟩
    | true =>
      obtain ⟨y, s2, hy, h2⟩ := h1
      obtain ⟨ys, s3, r, q⟩ := comp_inv I xs (acc ++ [y]) s2 h2 (fun y hy => hs y (List.mem_cons_of_mem _ hy)) hc
      refine ⟨y :: ys, s3, ?_, by rw [List.append_assoc] at q; exact q⟩
      unfold compM
      rw [if_pos (hc _ _ h), a1]
      dsimp only
      rw [hb]
      dsimp only
      rw [hy]
      dsimp only
      rw [r]
theorem comp_all {chk : Sto → Bool} {asg : D → Env → Option Env} {cond : SB} {elt : SE} {env0 : Env} {st : Sto} (p : D → Bool) (f : D → D) (hc : chk st = true) (xs : List D)
    (h : ∀ x ∈ xs, ∃ e1, asg x env0 = some e1 ∧ Ok (cond e1 st) (fun b s => b = p x ∧ s = st) ∧ (p x = true → Ok (elt e1 st) fun y s => y = f x ∧ s = st)) {Q : List D → Sto → Prop} (hq : Q ((xs.filter p).map f) st) : Ok (compM chk asg cond elt env0 xs st) Q :=
  ⟨_, _, comp_map p f hc xs fun x hx => by
    obtain ⟨e1, a, c, e⟩ := h x hx
    exact ⟨e1, a, c.eq, fun z => (e z).eq⟩, hq⟩
/-- a list of whole numbers, as data or as a cell -/
def IsL (s : Sto) (d : D) (cs : List Int) : Prop := d = .lst (cs.map D.int) ∨ ∃ j, d = .cell j ∧ s[j]? = some (cs.map D.int)
theorem IsL.get {s : Sto} {d : D} {cs : List Int} (h : IsL s d cs) : lstR s d = some (cs.map D.int) := by
  rcases h with rfl | ⟨j, rfl, e⟩
  · rfl
  · exact e
theorem IsL.ints {s : Sto} {d : D} {cs : List Int} (h : IsL s d cs) : lstI s d = some cs := by
  unfold lstI
  rw [h.get]
  exact intsOf_map _
theorem IsL.ty {s : Sto} {d : D} {cs : List Int} (h : IsL s d cs) : ty7 d = some .lst := by
  rcases h with rfl | ⟨j, rfl, e⟩
  · rfl
  · rfl
theorem IsL.lst {s : Sto} {cs : List Int} : IsL s (.lst (cs.map D.int)) cs := .inl rfl
theorem IsL.cell {s : Sto} {j : Nat} {cs : List Int} (h : s[j]? = some (cs.map D.int)) : IsL s (.cell j) cs := .inr ⟨j, rfl, h⟩
theorem py_ints {n : Nat} {st : Sto} : ∀ (cs : List Int), mapO (toPy (n + 1) st) (cs.map D.int) = some (cs.map PyData.int)
  | [] => rfl
  | c :: cs => by
    unfold mapO
    rw [List.map_cons]
    dsimp only
    have e : toPy (n + 1) st (.int c) = some (.int c) := by unfold toPy; rfl
    rw [e]
    dsimp only
    rw [py_ints cs]
    rfl
theorem IsL.py {s : Sto} {d : D} {cs : List Int} {n : Nat} (h : IsL s d cs) : toPy (n + 2) s d = some (.list (cs.map PyData.int)) := by
  rcases h with rfl | ⟨j, rfl, e⟩
  · unfold toPy
    dsimp only
    rw [py_ints]
  · unfold toPy
    dsimp only
    rw [e]
    dsimp only
    rw [py_ints]
theorem py_tup {s : Sto} {cs : List Int} {n : Nat} : toPy (n + 2) s (.tup (cs.map D.int)) = some (.tuple (cs.map PyData.int)) := by
  unfold toPy
  dsimp only
  rw [py_ints]
theorem eqv_ints : ∀ (as bs : List Int), PyData.eqvAll (as.map PyData.int) (bs.map PyData.int) = decide (as = bs)
  | [], [] => rfl
  | [], b :: bs => by simp [PyData.eqvAll]
  | a :: as, [] => by simp [PyData.eqvAll]
  | a :: as, b :: bs => by
    show (PyData.eqv (.int a) (.int b) && PyData.eqvAll (as.map PyData.int) (bs.map PyData.int)) = _
    rw [eqv_ints as bs]
    show ((a == b) && decide (as = bs)) = _
    by_cases h : a = b
    · by_cases h' : as = bs
      · simp [h, h']
      · simp [h, h']
    · simp [h]
section
variable {env : Env} {st s : Sto} {fe : SE} {fs : SA} {QI : Src → Sto → Prop} {Q : D → Prop} {f : SS} {d : D} {cs : List Int} {i : Int}
theorem z_seqA (h : Ok (fe env st) fun d s => ∃ cs, IsL s d cs ∧ ∀ chk : Sto → Bool, (∀ s' : Sto, IsL s' d cs → chk s' = true) → QI (cs.map D.int, chk) s) : Ok (iSeq fe env st) QI := by
  obtain ⟨d, s1, e1, cs, rfl | ⟨j, rfl, e⟩, q⟩ := h
  · exact ⟨_, s1, by unfold iSeq; rw [e1], q noChk fun _ _ => rfl⟩
  · refine ⟨_, s1, by unfold iSeq; rw [e1]; dsimp only; rw [(IsL.cell e).ints], q _ fun s' h' => ?_⟩
    exact decide_eq_true h'.ints
theorem u_lenA (h : IsL s d cs) (q : Q (.int cs.length)) : Od (gLen [d] s) Q := by
  refine ⟨_, ?_, q⟩
  rcases h with rfl | ⟨j, rfl, e⟩
  · show some (D.int ((cs.map D.int).length : Int)) = _
    rw [List.length_map]
  · show (match s[j]? with | some xs => some (D.int (xs.length : Int)) | none => none) = _
    rw [e]
    dsimp only
    rw [List.length_map]
theorem u_ixA {c : Int} (h : IsL s d cs) (hi : 0 ≤ i) (e : cs[i.toNat]? = some c) (q : Q (.int c)) : Od (oIx d (.int i) s) Q := by
  have hl := (List.getElem?_eq_some_iff.mp e).1
  have e2 : atI (cs.map D.int) i = some (.int c) := by
    unfold atI ixN
    rw [List.length_map, if_pos hi, if_pos (by omega)]
    show (cs.map D.int)[i.toNat]? = _
    rw [List.getElem?_map, e]
    rfl
  rcases h with rfl | ⟨j, rfl, ej⟩
  · exact u_ixL e2 q
  · exact u_ixC ej e2 q
theorem z_rg3 (h : Ok (fs env st) fun ds s => ∃ i j k, ds = [.int i, .int j, .int k] ∧ ((k ≠ 0 ∧ k.natAbs < 1073741824) ∧ Builtin.Range.small i j k = true ∧ Builtin.Range.rangeSize i j k = ((Builtin.Range.rangeSize i j k).toNat : Int)) ∧ QI (rangeD i k (Builtin.Range.rangeSize i j k).toNat, noChk) s) : Ok (iRg3 fs env st) QI := by
  obtain ⟨ds, s1, e1, i, j, k, rfl, r, q⟩ := h
  exact ⟨_, s1, by unfold iRg3; rw [e1]; dsimp only; rw [if_pos r], q⟩
theorem z_init {cn : Str} {n m : Nat} {ds : List D} {Q : List Str × List D → Sto → Prop} (hl : ds.length = n) (h : Ok (f (.ownI cn [] [] :: env0 (m - 1) ds) st) fun o s => match o with
    | .nx e => ∃ r, fldsOf cn e[0]? = some r ∧ Q r s
    | _ => False) : Ok (initM cn n m f ds st) Q := by
  obtain ⟨o, s1, e1, h⟩ := h
  cases o with
  | nx e =>
    obtain ⟨r, e2, q⟩ := h
    refine ⟨r, s1, ?_, q⟩
    unfold initM
    rw [if_pos hl, e1]
    dsimp only
    rw [e2]
  | rt d => exact h.elim
  | bk d => exact h.elim
  | ct d => exact h.elim
end
end LW

/-! LwR: repr of numbers and lists, as mirrors see it. -/
namespace LW
open PySem L2
theorem strOk_of (s : String) : PyData.strOk (Str.ofString s) = true := by
  unfold PyData.strOk
  rw [Str.ofString_eq_toList, List.all_toArray, List.all_eq_true]
  intro n hn
  obtain ⟨c, _, rfl⟩ := List.mem_map.mp hn
  have h := c.valid
  refine decide_eq_true ?_
  rcases h with h | h
  · exact Nat.lt_trans h (by decide)
  · exact h.2
theorem strOk_app {a b : Str} (h : PyData.strOk a = true) (h' : PyData.strOk b = true) : PyData.strOk (a ++ b) = true := by
  unfold PyData.strOk at h h' ⊢
  rw [Str.cps_append, Array.all_append, h, h']
  rfl
theorem strOk_text : ∀ (ts : List Str) (k : Nat) (acc : Str), PyData.strOk acc = true → (∀ t ∈ ts, PyData.strOk t = true) → PyData.strOk (textFrom k acc ts) = true
  | [], k, acc, h, _ => h
  | t :: ts, k, acc, h, ht => strOk_text ts (k + 1) _ (strOk_app (strOk_app h (strOk_of _)) (ht t (List.mem_cons_self ..))) fun u hu => ht u (List.mem_cons_of_mem _ hu)
theorem strOk_list {ts : List Str} (h : ∀ t ∈ ts, PyData.strOk t = true) : PyData.strOk (listText ts) = true := strOk_app (strOk_text ts 0 _ (strOk_of _) h) (strOk_of _)
structure Sh (p : PyData) (n : Nat) : Prop where
  sh : p.showable = true
  ln : p.shown.length ≤ n
  ok : PyData.strOk p.shown = true
theorem sh_int {i : Int} (h : i.natAbs < 10 ^ 12) : Sh (.int i) 13 where
  sh := by
    unfold PyData.showable
    by_cases h0 : i.natAbs = 0
    · rw [h0]
      exact decide_eq_true (by decide)
    · exact decide_eq_true ((Nat.log2_lt h0).mpr (Nat.lt_of_lt_of_le h (Nat.le_trans (m := 2 ^ 40) (by decide) (Nat.pow_le_pow_right (by decide) (by decide)))))
  ln := PyData.shown_int_le h
  ok := by
    unfold PyData.shown
    exact strOk_of _
theorem sh_non : Sh .none 13 where
  sh := by unfold PyData.showable; rfl
  ln := by unfold PyData.shown; decide
  ok := by
    unfold PyData.shown
    exact strOk_of _
theorem sh_all {n : Nat} : ∀ (xs : List PyData), (∀ x ∈ xs, Sh x n) → PyData.showableAll xs = true ∧ ((PyData.shownAll xs).map (·.length)).sum ≤ n * xs.length ∧ (PyData.shownAll xs).length = xs.length ∧ ∀ t ∈ PyData.shownAll xs, PyData.strOk t = true
  | [], _ => ⟨by unfold PyData.showableAll; rfl, by unfold PyData.shownAll; simp, by unfold PyData.shownAll; rfl, by unfold PyData.shownAll; intro t h; cases h⟩
  | x :: xs, h => by
    obtain ⟨h1, h2, h3, h4⟩ := sh_all xs fun y hy => h y (List.mem_cons_of_mem _ hy)
    have hx := h x (List.mem_cons_self ..)
    unfold PyData.showableAll PyData.shownAll
    refine ⟨by rw [hx.sh, h1]; rfl, ?_, by rw [List.length_cons, List.length_cons, h3], ?_⟩
    · rw [List.map_cons, List.sum_cons, List.length_cons, Nat.mul_add]
      have := hx.ln
      omega
    · intro t ht
      rcases List.mem_cons.mp ht with rfl | ht
      · exact hx.ok
      · exact h4 t ht
theorem sh_list {n : Nat} {xs : List PyData} (h : ∀ x ∈ xs, Sh x n) : Sh (.list xs) ((n + 2) * xs.length + 3) := by
  obtain ⟨h1, h2, h3, h4⟩ := sh_all xs h
  refine ⟨by unfold PyData.showable; exact h1, ?_, by unfold PyData.shown; exact strOk_list h4⟩
  unfold PyData.shown
  have := listText_len_le (PyData.shownAll xs)
  rw [h3] at this
  rw [Nat.add_mul]
  omega
theorem sh_mono {p : PyData} {n m : Nat} (h : Sh p n) (hm : n ≤ m) : Sh p m := ⟨h.sh, Nat.le_trans h.ln hm, h.ok⟩
section
variable {s : Sto} {Q : D → Prop} {d : D} {p : PyData} {n : Nat} {x : Str}
theorem u_repr (hp : toPy 60 s d = some p) (h : Sh p n) (hn : n ≤ 1000000) (q : Q (.str p.shown)) : Od (gRepr [d] s) Q := by
  refine ⟨_, ?_, q⟩
  unfold gRepr
  dsimp only
  rw [hp]
  dsimp only
  rw [if_pos ⟨h.sh, Nat.le_trans h.ln hn⟩]
theorem py_str (h : PyData.strOk x = true) {k : Nat} : toPy (k + 1) s (.str x) = some (.str x) := by
  unfold toPy
  dsimp only
  rw [if_pos h]
theorem u_neS (h : PyData.strOk x = true) (q : Q (.bl false)) : Od (oNe (.str x) (.str x) s) Q := by
  refine u_ne (py_str h) (py_str h) ?_
  have e : PyData.eqv (.str x) (.str x) = true := by
    unfold PyData.eqv
    exact beq_self_eq_true x
  rw [e]
  exact q
end
end LW

/-! LwS: more words: int(..), a <= b <= c, whole numbers of the module, enumerate. -/
namespace LW
open PySem L2 PyProof.Rows
/-! ### int(x) -/
def gInt : List D → Sto → Option D := fun ds _ => match ds with
  | [.int i] => some (.int i)
  | [.bl b] => some (.int (if b = true then 1 else 0))
  | _ => none
theorem ok_intC {mg : Glob} : BiOk mg (RE mg) (fun xs H Q => (∃ i, xs = [.int i] ∧ Q (.int i) H) ∨ ∃ k, xs = [.bl k] ∧ Q (.int (if k = true then 1 else 0)) H) gInt := by
  intro N c H st us ds d Q W p q k
  unfold gInt at q
  split at q
  · cases q
    obtain ⟨u, rfl, h⟩ := tl1 p
    exact .inl ⟨_, by rw [h.int], k _ N c H Ex.refl W (.int _)⟩
  · cases q
    obtain ⟨u, rfl, h⟩ := tl1 p
    exact .inr ⟨_, by rw [h.bl], k _ N c H Ex.refl W (.int _)⟩
  · cases q
section
variable {mg : Glob} {X : Cx} {e : Expr} {es : List Expr} {p pos : Pos} {f : SA}
theorem d_intC (hm : X.mg "int" = none) (ha : PA X (e :: es) (tAP mg f)) (hg : Gl X "int" := by rfl) (he : starEach (e :: es) X.env = (false, eval e X.env) :: starEach es X.env := by rfl) (hpl : (backTo pos (starEach es X.env)).any (·.1) = false := by rfl) : PE X (.Call (.Name "int" p) (e :: es) [] pos) (tE mg (eBi gInt f)) :=
  d_bt call_int1 ok_intC back_E hg hm (by decide +kernel) ha (by decide) (by decide) he hpl
end
/-! ### whole numbers of the module -/
def GI (mg : Str → Option Value) (x : Str) (n : Int) : Prop := ∃ t, mg x = some (.int n t)
theorem d_gint {mg : Glob} {X : Cx} {x : Str} {n : Int} {pos : Pos} (h : GI X.mg x n) (hg : Gl X x := by rfl) (hd : (x == ("__debug__" : Str)) = false := by decide) : PE X (.Name x pos) (tE mg (eC (.int n))) := by
  obtain ⟨t, h⟩ := h
  exact d_glob (v := .int n) hg h ⟨t, rfl⟩ (fun _ _ _ => .int n) hd
theorem gi_mk {K : PySem.W.Frag} {h : Heap} {mg : Str → Option Value} {x : Str} {n : Int} {t : Tok} (X : K.In h) (G : h.Ns mainGlobals mg) (a : PySem.W.nsIn K mainGlobals x = some (some (.int n t))) : GI mg x n := ⟨t, PySem.W.mg_of X G a⟩
/-! ### a op b op c -/
def eChn (p q : Int → Int → Bool) (fa fb fc : SE) : SE := fun env st => match fa env st with
  | some (.int i, s1) => match fb env s1 with
    | some (.int j, s2) => if p i j = true then (match fc env s2 with
      | some (.int k, s3) => some (.bl (q j k), s3)
      | _ => none) else some (.bl false, s2)
    | _ => none
  | _ => none
section
variable {mg : Glob} {X : Cx} {a b c : Expr} {fa fb fc : SE} {p q : Int → Int → Bool} {o o' : CmpOp} {pos : Pos}
theorem r_chn {σ : L2.St} {H : Hp} {Q : VK} (h : tE mg (eChn p q fa fb fc) σ H Q) : tChain (rI0 fun i j => .bl (p i j)) (rI0 fun i j => .bl (q i j)) (tP mg fa) (tP mg fb) (tP mg fc) σ H Q := by
  obtain ⟨E, N, c, env, st, d, st', R, z, k⟩ := h
  unfold eChn at z
  split at z
  · rename_i i s1 z1
    split at z
    · rename_i j s2 z2
      refine ⟨E, N, c, env, st, _, _, R, z1, fun v N1 c1 H1 x1 W1 r1 => ?_⟩
      have R1 := R.ex x1 W1
      refine ⟨E, N1, c1, env, s1, _, _, R1, z2, fun u N2 c2 H2 x2 W2 r2 => ?_⟩
      have R2 := R1.ex x2 W2
      refine ⟨i, j, r1.int, r2.int, _, rfl, ?_⟩
      split at z
      · rename_i hp
        split at z
        · rename_i l s3 z3
          cases z
          rw [if_pos hp]
          refine ⟨E, N2, c2, env, s2, _, _, R2, z3, fun w N3 c3 H3 x3 W3 r3 => ?_⟩
          exact ⟨j, l, r2.int, r3.int, k _ N3 c3 H3 ((x1.trans x2 R.wd).trans x3 R.wd) W3 (.bl _)⟩
        · cases z
      · rename_i hp
        cases z
        rw [if_neg hp]
        exact k _ N2 c2 H2 (x1.trans x2 R.wd) W2 (.bl _)
    · cases z
  · cases z
theorem d_chn (ho : OpR X (compareOp o) (rI0 fun i j => .bl (p i j))) (ho' : OpR X (compareOp o') (rI0 fun i j => .bl (q i j))) (ha : PE X a (tP mg fa)) (hb : PE X b (tP mg fb)) (hc : PE X c (tP mg fc)) (hm : lastMarks [o, o'] [b, c] = false := by with_unfolding_all rfl) :
    PE X (.Compare a [o, o'] [b, c] pos) (tE mg (eChn p q fa fb fc)) := pe_weak (pe_chain ho ho' ha hb hc hm) fun _ _ _ h => r_chn h
theorem d_chnT (ho : OpR X (compareOp o) (rI0 fun i j => .bl (p i j))) (ho' : OpR X (compareOp o') (rI0 fun i j => .bl (q i j))) (ha : PE X a (tP mg fa)) (hb : PE X b (tP mg fb)) (hc : PE X c (tP mg fc)) (hm : lastMarks [o, o'] [b, c] = false := by with_unfolding_all rfl) :
    PT X (.Compare a [o, o'] [b, c] pos) (tT mg (bOf (eChn p q fa fb fc))) := pt_weak (pt_chain ho ho' ha hb hc hm) fun σ H Q h => by
  obtain ⟨E, N, c', env, st, d, st', R, z, k⟩ := h
  unfold bOf at z
  split at z
  · rename_i bb s1 z1
    cases z
    exact r_chn (Q := fun x H' => ∃ k, x = .bl k ∧ Q k H') ⟨E, N, c', env, st, _, _, R, z1, fun v N' c'' H' x W r => ⟨_, RepT.bl (.inl r), k N' c'' H' x W⟩⟩
  · cases z
end
/-! ### enumerate(list) -/
def enumD : Nat → List D → List D
  | _, [] => []
  | n, x :: r => .tup [.int (n : Nat), x] :: enumD (n + 1) r
theorem enumD_len : ∀ (n : Nat) (xs : List D), (enumD n xs).length = xs.length
  | _, [] => rfl
  | n, x :: r => by
    show (enumD (n + 1) r).length + 1 = r.length + 1
    rw [enumD_len]
theorem enumD_get : ∀ (n : Nat) (xs : List D) (i : Nat) (x : D), xs[i]? = some x → (enumD n xs)[i]? = some (.tup [.int ((n + i : Nat) : Int), x])
  | n, [], i, x, e => by cases e
  | n, y :: r, 0, x, e => by cases e; rfl
  | n, y :: r, i + 1, x, e => by
    show (enumD (n + 1) r)[i]? = _
    rw [enumD_get (n + 1) r i x e, show n + 1 + i = n + (i + 1) by omega]
theorem il_enum {mg : Glob} {N : Prot} {c : List Addr} {H : Hp} {K : PySem.W.Frag} {a : Addr} {vs : List V} {xs : List D} (ha : H a = some (.lst vs)) (n : ¬ N a) (r : RepL mg N c H vs xs) : ItL mg (Ite K a) (enumD 0 xs, noChk) N c H where
  stop := fun N' c' H' st sx _ _ => ⟨vs, SqL.of (sx.keep a _ ha n), by show vs.length ≤ (enumD 0 xs).length; rw [enumD_len, r.length]; exact Nat.le_refl _⟩
  go := fun i N' c' H' st hi sx _ _ => by
    have hi : i < xs.length := by rw [← enumD_len 0 xs]; exact hi
    obtain ⟨v, hv, _⟩ := r.get (List.getElem?_eq_getElem hi)
    exact ⟨vs, v, SqL.of (sx.keep a _ ha n), hv⟩
  yld := fun i N' c' H' st x H2 hi sx W _ y => by
    have hi : i < xs.length := by rw [← enumD_len 0 xs]; exact hi
    obtain ⟨T, x0, rfl, hT, rfl, hy⟩ := y
    obtain ⟨v, hv, rv⟩ := r.get (List.getElem?_eq_getElem hi)
    have e := hy vs (SqL.of (sx.keep a _ ha n))
    rw [hv] at e
    cases e
    refine ⟨_, enumD_get 0 xs i _ (List.getElem?_eq_getElem hi), Ex.laid W hT, W.laid hT, ?_⟩
    rw [Nat.zero_add]
    exact Rep.laidT W hT (.cons (.int _) (.cons (rv.tr sx.tr) .nil))
def iEnm (f : SA) : Fx Src := fun env st => match f env st with
  | some ([.lst xs], s1) => some ((enumD 0 xs, noChk), s1)
  | _ => none
section
variable {mg : Glob} {X : Cx} {e : Expr} {elts : List Expr} {kk : Nat} {p pos tpos : Pos} {f : SA}
theorem i_enum (hm : X.mg "enumerate" = none) (ha : PA X [e] (tA mg f)) (hg : Gl X "enumerate" := by rfl) (hs : starEach [e] X.env = [(false, eval e X.env)] := by rfl) : PI X (.Tuple elts kk tpos) (.Call (.Name "enumerate" p) [e] [] pos) (tI mg (iEnm f)) :=
  pi_weak (pi_enum hg hm ha hs) fun σ H R' ⟨E, N, c, env, st, xs, st', R, q, k⟩ => by
    unfold iEnm at q
    split at q
    · rename_i ys s1 q1
      cases q
      refine ⟨E, N, c, env, st, _, _, R, q1, fun vs N1 c1 H1 x1 W1 r1 => ?_⟩
      cases r1 with
      | cons r rr =>
        cases rr
        cases r with
        | lst ha n r => exact ⟨_, _, rfl, SqL.of ha, k _ N1 c1 H1 x1 W1 (il_enum ha n r)⟩
    · cases q
end
end LW

/-! LwT: sorted(set(list of whole numbers)). -/
namespace LW
open PySem L2 PySem.Spec PyProof.Rows
section
variable {P : Program} {w : World} {A : Around} {E : Value → Shared → Prop} {s : Shared}
/-- a new set, and the heap with it -/
abbrev nS (w : World) : Obj := { cls := .type "set", dict := none, data := .set #[] 0 (.fresh 0 0 (!w.params.followText "set-order")) }
abbrev pS (w : World) (s : Shared) : Heap := s.heap.push (nS w)
abbrev SetEnd (w : World) (s : Shared) (ns : List Int) (E : Value → Shared → Prop) : Result → Shared → Prop :=
  wants (fun r s₂ => r = .none ∧ ∃ h' tk c, s₂ = { s with heap := h', toks := tk } ∧ SetR w h' s.heap.objs.size (fun j => decide (j ∈ ns)) c ∧ c ≤ ns.length ∧ (∀ b o, s.heap.get? b = some o → h'.get? b = some o)) E
set_option maxHeartbeats 8000000 in
theorem setL {l : Addr} {items : Array Value} (ns : List Int) {Q : Value → Shared → Prop} (hh : A.handled = none) (hl : s.heap.IsList l items) (hit : IntsAre items.toList ns) (hb : ns.length + 1 < scanBound)
    (h : ∀ (h' : Heap) (tk c : Nat), SetR w h' s.heap.objs.size (fun j => decide (j ∈ ns)) c → c ≤ ns.length → (∀ b o, s.heap.get? b = some o → h'.get? b = some o) → Q (.ref s.heap.objs.size) { s with heap := h', toks := tk }) :
    wpAny (model P w) A (call (.type "set") [.ref l]) Q E s := by
  have hisz : items.size = ns.length := (Array.length_toList ▸ IntsAre.length hit : _)
  obtain ⟨c, tl, hmro⟩ := F.called_set.mro
  have hmade := F.called_set.made
  have hsub := F.called_set.sub
  refine wpAny_call (codeAny_of_tree ?_)
  show wpAny _ _ (callAny (.type "set") _) _ _ _
  refine wpAny_pure ⟨Code.quiet_builtin _ (by decide +kernel), codeAny_builtin F.entry_type_call ?_⟩
  rw [Around.under_plain (weight_type_call_type "set" [.ref l] []) rfl]
  have h1 := F.called_set.notType
  have h2 := F.called_set.canCreate
  have hct := F.typeCall_set_1 (.ref l)
  repeat (any_goals (first | assumption | wp_step))
  refine codeAny_mono (code_set_led1 (.ref l) (E := E) (Q₁ := fun obj s₁ => obj = .ref s.heap.objs.size ∧ s₁ = { s with heap := pS w s }) ⟨rfl, rfl⟩) fun r s₁ hr => ?_
  cases r with
  | error e => exact hr
  | ok fl =>
    cases fl with
    | ret obj =>
      obtain ⟨rfl, rfl⟩ := hr
      have hS : (pS w s).get? s.heap.objs.size = some (nS w) := Heap.get?_push_size _ rfl
      have hT : Shared.TypeIs { s with heap := pS w s } (.ref s.heap.objs.size) "set" := ⟨_, hS, rfl⟩
      have hli := F.called_set.init.lookup
      have hbi := F.called_set.init.bind (.ref s.heap.objs.size)
      repeat (any_goals (first | assumption | wp_step))
      refine codeAny_mono (codeAny_call_builtin (R := SetEnd w s ns E) F.called_set.init.plain F.entry_set_init (check_set_init_1 hT ?_)) fun r₂ s₂ hr₂ => ?_
      · obtain ⟨ol, hol, hcl, nl, hdl⟩ := hl
        obtain ⟨ocls, odict, odata, oslots⟩ := ol
        simp only at hcl hdl
        subst hcl; subst hdl
        have hol' : (pS w s).get? l = some { cls := .type "list", dict := odict, data := .seq items nl, slots := oslots } := Heap.get?_push_of_some _ hol
        have hsls := F.sub_list_set
        have hslf := F.sub_list_frozenset
        have hne : (Value.type "list" == Value.type "dict") = false := by decide
        have hl1 : (pS w s).IsList l items := ⟨_, hol', rfl, nl, rfl⟩
        unfold Builtin.«set.__init__» noKeywords Builtin.Frozenset.updateFrom
        generalize hPI : pyIter = PI
        wp_walk
        subst hPI
        refine wpAny_pyIter_list hl1 ?_
        refine wpAny_bind (wpAny_runValue ?_)
        have hlS : l < s.heap.objs.size := Heap.lt_size hol
        have hh3 : A.in1.in1.in1.handled = none := by simp [hh]
        have hz1 : (pS w s).objs.size = s.heap.objs.size + 1 := Heap.size_push ..
        have hneI : l ≠ (pS w s).objs.size := hz1 ▸ Nat.ne_of_lt (Nat.lt_succ_of_lt hlS)
        have hSf : s.heap.objs.size ∉ [(pS w s).objs.size, l] := by
          rw [hz1]
          intro z
          rcases List.mem_cons.mp z with z | z
          · exact absurd z (Nat.ne_of_lt (Nat.lt_succ_self _))
          · exact absurd (List.mem_singleton.mp z) (Nat.ne_of_gt hlS)
        have hval : ∀ (i : Nat) (v : Value), items[i]? = some v → ∃ k t, ns[i]? = some k ∧ v = .int k t := fun i v hv => by
          have hi : i < ns.length := hisz ▸ (Array.getElem?_eq_some_iff.mp hv).1
          obtain ⟨t, e⟩ := IntsAre.int_at hit i v (by rw [Array.getElem?_toList, hv])
          refine ⟨ns[i], t, List.getElem?_eq_getElem hi, ?_⟩
          rw [e, List.getD_eq_getElem?_getD, List.getElem?_eq_getElem hi]
          rfl
        refine set_update_ints ((Walks.list hh3 _ l hneI items).toS) s.heap.objs.size hSf ns hisz hb hval (items.size - 0) 0 _ (by omega) (Nat.zero_le _) ⟨⟨_, Heap.get?_push_size _ rfl, rfl, rfl⟩, (hl1.push _)⟩ ?hS0 ?hR
        case hS0 => exact ⟨0, Nat.le_refl 0, setR_new_at (Heap.get?_push_of_some _ hS)⟩
        case hR =>
          intro s' c' hm hc' hS'
          obtain ⟨h', g2, d', tk', os'⟩ := s'
          have eg : g2 = s.gens := hm.gens
          have ed : d' = s.drawn := hm.drawn
          have eo : os' = s.os := hm.os
          subst eg; subst ed; subst eo
          show wpAny _ _ _ _ _ _
          refine wpAny_pure ?_
          show wpAny _ _ (ret Value.none) _ _ _
          rw [hisz] at hc'
          refine wpAny_pure ⟨rfl, h', tk', c', rfl, hS', hc', fun b o e => ?_⟩
          have hb0 : b < s.heap.objs.size := Heap.lt_size e
          refine hm.heap b o ?_ (Heap.get?_push_of_some _ (Heap.get?_push_of_some _ e))
          rw [hz1]
          intro z
          rcases List.mem_cons.mp z with z | z
          · exact absurd z (Nat.ne_of_lt hb0)
          · exact absurd (List.mem_singleton.mp z) (Nat.ne_of_lt (Nat.lt_succ_of_lt hb0))
      · cases r₂ with
        | error e => exact hr₂
        | ok fl₂ =>
          cases fl₂ with
          | ret r =>
            obtain ⟨rfl, h', tk, c', rfl, hS', hc', hk'⟩ := hr₂
            repeat (any_goals (first | assumption | wp_step))
            exact h _ _ _ hS' hc' hk'
          | _ => exact hr₂.elim
    | _ => exact hr.elim
end
end LW

/-! LwU: sorted(set(..)) as a reading and as plain data. -/
namespace LW
open PySem L2 PySem.Spec PyProof.Rows
/-! ### the plain word -/
def insU (x : Int) : List Int → List Int
  | [] => [x]
  | y :: r => if x < y then x :: y :: r else if x = y then y :: r else y :: insU x r
def sortU (ns : List Int) : List Int := ns.foldr insU []
theorem mem_insU {x k : Int} : ∀ {l : List Int}, k ∈ insU x l ↔ k = x ∨ k ∈ l
  | [] => by simp [insU]
  | y :: r => by
    unfold insU
    split
    · simp
    · split
      · rename_i h
        subst h
        simp
      · simp only [List.mem_cons, mem_insU (l := r)]
        constructor
        · rintro (h | h | h)
          · exact .inr (.inl h)
          · exact .inl h
          · exact .inr (.inr h)
        · rintro (h | h | h)
          · exact .inr (.inl h)
          · exact .inl h
          · exact .inr (.inr h)
theorem pw_insU {x : Int} : ∀ {l : List Int}, l.Pairwise (· < ·) → (insU x l).Pairwise (· < ·)
  | [], _ => by simp [insU]
  | y :: r, h => by
    obtain ⟨h1, h2⟩ := List.pairwise_cons.mp h
    unfold insU
    split
    · rename_i hx
      refine List.pairwise_cons.mpr ⟨fun k hk => ?_, h⟩
      rcases List.mem_cons.mp hk with rfl | hk
      · exact hx
      · have := h1 k hk
        omega
    · split
      · exact h
      · refine List.pairwise_cons.mpr ⟨fun k hk => ?_, pw_insU h2⟩
        rcases mem_insU.mp hk with rfl | hk
        · omega
        · exact h1 k hk
theorem mem_sortU {k : Int} : ∀ {ns : List Int}, k ∈ sortU ns ↔ k ∈ ns
  | [] => by simp [sortU]
  | n :: r => by
    show k ∈ insU n (sortU r) ↔ _
    rw [mem_insU, mem_sortU, List.mem_cons]
theorem pw_sortU : ∀ {ns : List Int}, (sortU ns).Pairwise (· < ·)
  | [] => List.Pairwise.nil
  | n :: r => pw_insU (pw_sortU (ns := r))
theorem pw_uniq : ∀ {l m : List Int}, l.Pairwise (· < ·) → m.Pairwise (· < ·) → (∀ k, k ∈ l ↔ k ∈ m) → l = m
  | [], [], _, _, _ => rfl
  | [], y :: m, _, _, h => by have := (h y).mpr (by simp); cases this
  | x :: l, [], _, _, h => by have := (h x).mp (by simp); cases this
  | x :: l, y :: m, hl, hm, h => by
    obtain ⟨l1, l2⟩ := List.pairwise_cons.mp hl
    obtain ⟨m1, m2⟩ := List.pairwise_cons.mp hm
    have e : x = y := by
      rcases List.mem_cons.mp ((h x).mp (by simp)) with e | e
      · exact e
      · rcases List.mem_cons.mp ((h y).mpr (by simp)) with e' | e'
        · exact e'.symm
        · have := m1 x e
          have := l1 y e'
          omega
    subst e
    congr 1
    refine pw_uniq l2 m2 fun k => ⟨fun hk => ?_, fun hk => ?_⟩
    · rcases List.mem_cons.mp ((h k).mp (by simp [hk])) with e | e
      · have := l1 k hk
        omega
      · exact e
    · rcases List.mem_cons.mp ((h k).mpr (by simp [hk])) with e | e
      · have := m1 k hk
        omega
      · exact e
/-! ### the reading -/
def tSS (K : PySem.W.Frag) (ta : TE) : TE := fun σ H Q => ta σ H fun x H1 => ∃ (l : Addr) (ns : List Int), x = .ref l ∧ SqL K H1 l (ns.map V.int) ∧ ns.length < 64 ∧ ∀ p, H1 p = none → Q (.ref p) (upd H1 p (.lst ((sortU ns).map V.int)))
section
variable {X : Cx}
theorem pe_ss {a : Expr} {ta : TE} {p p2 q pos : Pos} (hc : X.calm = true) (hg : Gl X "sorted") (hm : X.mg "sorted" = none) (hg2 : Gl X "set") (hm2 : X.mg "set" = none) (ha : PE X a ta)
    (na : starEach [a] X.env = (false, eval a X.env) :: starEach [] X.env := by rfl) : PE X (.Call (.Name "sorted" p) [.Call (.Name "set" p2) [a] [] q] [] pos) (tSS X.K ta) := by
  refine ⟨fun pins s σ H Q I h => ?_⟩
  refine Call_ (ld_blt I hg hm (u := .builtin "sorted") (by decide +kernel) ?_)
  refine PyProof.Rows.callWith_builtin1 (PyProof.Rows.args_cons ?_ rfl) rfl rfl
  refine Call_ (ld_blt I hg2 hm2 PyProof.Rows.boot_set ?_)
  refine PyProof.Rows.callWith_type1 (PyProof.Rows.args_cons (thn (ha.run pins s σ H _ I h) fun v s1 ⟨x, H1, I1, r1, q1⟩ => PyProof.Rows.args_nil ?_) na) na rfl
  obtain ⟨l, ns, rfl, hq, h64, q1⟩ := q1
  cases r1
  obtain ⟨its, r, pl, hz⟩ := I1.list hq
  refine setL ns (I1.ok.hd hc) pl.isList (by simpa using r.ints) (by unfold scanBound; omega) fun h' tk c hS hc' hk => ?_
  refine PyProof.Rows.args_nil ?_
  have I2 : Inv X pins σ H1 { s1 with heap := h', toks := tk } := I1.kept hk
  refine sorted_set hS (I2.ok.hd hc) (by omega) fun s' p out cc ms k g o hp hgt hi hs hmm hll => ?_
  have e1 : ms = sortU ns := pw_uniq hs pw_sortU fun k => by
    rw [hmm k, mem_sortU]
    exact decide_eq_true_iff
  have hlen : (ms.map V.int).length ≤ sizeLine := by
    rw [List.length_map, hll, sizeLine_eq]
    omega
  have hn : H1 p = none := I2.hok.fresh hp
  have J : Inv X pins σ (upd H1 p (.lst (ms.map V.int))) { s1 with heap := s'.heap, gens := s'.gens, drawn := s'.drawn, toks := s'.toks } :=
    L2.Inv.call (s := { s1 with heap := h', toks := tk }) (ch := []) I2 (Un.laid k hp hn) (I2.hok.laid k hp ⟨hlen, out.toList, cc, vals_of_ints hi, hgt⟩) (by rw [g]; exact I2.bare) (fun _ z => nomatch z)
  have e : s' = { s1 with heap := s'.heap, gens := s'.gens, drawn := s'.drawn, toks := s'.toks } := by
    cases s'
    cases s1
    cases o
    rfl
  rw [e]
  refine ⟨.ref p, _, J, rfl, ?_⟩
  rw [e1]
  exact q1 p hn
end
/-! ### and as data -/
def eSS (fa : SE) : Fx (List D) := fun env st => match fa env st with
  | some (x, s1) => match lstI s1 x with
    | some ns => if ns.length < 64 then some ((sortU ns).map D.int, s1) else none
    | none => none
  | none => none
theorem repL_ints {mg : Glob} {N : Prot} {c : List Addr} {H : Hp} : ∀ (ns : List Int), RepL mg N c H (ns.map V.int) (ns.map D.int)
  | [] => .nil
  | n :: r => .cons (.int n) (repL_ints r)
theorem d_ss {mg : Glob} {X : Cx} {a : Expr} {fa : SE} {p p2 q pos : Pos} (hc : X.calm = true) (hm : X.mg "sorted" = none) (hm2 : X.mg "set" = none) (ha : PE X a (tP mg fa)) (hg : Gl X "sorted" := by rfl) (hg2 : Gl X "set" := by rfl)
    (na : starEach [a] X.env = (false, eval a X.env) :: starEach [] X.env := by rfl) (hK : X.K = mg.K := by rfl) : PE X (.Call (.Name "sorted" p) [.Call (.Name "set" p2) [a] [] q] [] pos) (tL mg (eSS fa)) :=
  pe_weak (pe_ss hc hg hm hg2 hm2 ha na) fun σ H Q ⟨E, N, c, env, st, d, st', R, z, k⟩ => by
    unfold eSS at z
    split at z
    · rename_i x s1 z1
      split at z
      · rename_i ns hn
        split at z
        · rename_i hl
          cases z
          refine ⟨E, N, c, env, st, x, _, R, z1, fun v N1 c1 H1 x1 W1 r1 => ?_⟩
          obtain ⟨l, rfl, hq⟩ := RepT.ints W1 r1 hn
          refine ⟨l, ns, rfl, hK ▸ hq, hl, fun p hp => ?_⟩
          exact k _ _ c1 _ (x1.trans (Ex.laidN W1 hp) R.wd) (W1.laidN hp) (back_N R.wd x1 W1 (RN.laid W1 hp (repL_ints _)))
        · cases z
      · cases z
    · cases z
end LW

/-! LwV: sorted(list of whole numbers). -/
namespace LW
open PySem L2 PySem.Spec PyProof.Rows
def insI (x : Int) : List Int → List Int
  | [] => [x]
  | y :: r => if x ≤ y then x :: y :: r else y :: insI x r
def sortI (ns : List Int) : List Int := ns.foldr insI []
theorem perm_insI {x : Int} : ∀ {l : List Int}, (insI x l).Perm (x :: l)
  | [] => List.Perm.refl _
  | y :: r => by
    unfold insI
    split
    · exact List.Perm.refl _
    · exact ((perm_insI (l := r)).cons y).trans (List.Perm.swap x y r)
theorem perm_sortI : ∀ {l : List Int}, (sortI l).Perm l
  | [] => List.Perm.refl _
  | x :: r => (perm_insI (l := sortI r)).trans ((perm_sortI (l := r)).cons x)
theorem pw_insI {x : Int} : ∀ {l : List Int}, l.Pairwise (· ≤ ·) → (insI x l).Pairwise (· ≤ ·)
  | [], _ => by simp [insI]
  | y :: r, h => by
    obtain ⟨h1, h2⟩ := List.pairwise_cons.mp h
    unfold insI
    split
    · rename_i hx
      refine List.pairwise_cons.mpr ⟨fun k hk => ?_, h⟩
      rcases List.mem_cons.mp hk with rfl | hk
      · exact hx
      · have := h1 k hk
        omega
    · refine List.pairwise_cons.mpr ⟨fun k hk => ?_, pw_insI h2⟩
      rcases List.mem_cons.mp ((perm_insI (l := r)).mem_iff.mp hk) with rfl | hk
      · omega
      · exact h1 k hk
theorem pw_sortI : ∀ {l : List Int}, (sortI l).Pairwise (· ≤ ·)
  | [] => List.Pairwise.nil
  | x :: r => pw_insI (pw_sortI (l := r))
theorem sortI_uniq {l m : List Int} (hp : l.Perm m) (hl : l.Pairwise (· ≤ ·)) : l = sortI m :=
  (hp.trans perm_sortI.symm).eq_of_pairwise (le := (· ≤ ·)) (fun a b _ _ h1 h2 => Int.le_antisymm h1 h2) hl pw_sortI
def gSort : List D → Sto → Option (List D) := fun ds st => match ds with
  | [x] => match lstI st x with
    | some ns => some ((sortI ns).map D.int)
    | none => none
  | _ => none
theorem ok_sort {mg : Glob} : BiOk mg (RN mg) (rSortedI mg.K) gSort := by
  intro N c H st us ds d Q W p q k
  unfold gSort at q
  split at q
  · split at q
    · rename_i ns hn
      cases q
      obtain ⟨u, rfl, h⟩ := tl1 p
      obtain ⟨a, rfl, ha⟩ := h.ints W hn
      refine ⟨a, ns, rfl, ha, fun ns' l hp hs hl => ?_⟩
      rw [sortI_uniq hp hs]
      exact k _ _ _ _ (Ex.laidN W hl) (W.laidN hl) (RN.laid W hl (repL_ints _))
    · cases q
  · cases q
section
variable {mg : Glob} {X : Cx} {e : Expr} {es : List Expr} {p pos : Pos} {f : SA}
theorem d_sort (hm : X.mg "sorted" = none) (ha : PA X (e :: es) (tAP mg f)) (hg : Gl X "sorted" := by rfl) (he : starEach (e :: es) X.env = (false, eval e X.env) :: starEach es X.env := by rfl) (hpl : (backTo pos (starEach es X.env)).any (·.1) = false := by rfl) (hK : X.K = mg.K := by rfl) : PE X (.Call (.Name "sorted" p) (e :: es) [] pos) (tL mg (eBi gSort f)) :=
  d_bi (hK ▸ cr_sortedI) ok_sort back_N hg hm (by decide +kernel) ha (by decide) (by decide) he hpl
end
end LW

/-! LwW: sorted(set(..)) of longer lists with few members; xs[::-1]. -/
namespace LW
open PySem L2 PySem.Spec PyProof.Rows
def tSW (K : PySem.W.Frag) (ta : TE) : TE := fun σ H Q => ta σ H fun x H1 => ∃ (l : Addr) (ns : List Int), x = .ref l ∧ SqL K H1 l (ns.map V.int) ∧ (ns.length < 4000 ∧ (sortU ns).length < 64) ∧ ∀ p, H1 p = none → Q (.ref p) (upd H1 p (.lst ((sortU ns).map V.int)))
theorem setR_few {w : World} {h : Heap} {a : Addr} {ns : List Int} {c : Nat} (R : SetR w h a (fun j => decide (j ∈ ns)) c) : c ≤ (sortU ns).length := by
  obtain ⟨o, es, ep, t, _, _, _, _, nd, hm, _, _, hn, _, _⟩ := R
  have q := List.Nodup.length_le_of_subset nd (l₂ := sortU ns) fun k hk => mem_sortU.mpr (of_decide_eq_true ((hm k).mpr hk))
  rw [List.length_map, Array.length_toList, hn] at q
  exact q
section
variable {X : Cx}
theorem pe_sw {a : Expr} {ta : TE} {p p2 q pos : Pos} (hc : X.calm = true) (hg : Gl X "sorted") (hm : X.mg "sorted" = none) (hg2 : Gl X "set") (hm2 : X.mg "set" = none) (ha : PE X a ta)
    (na : starEach [a] X.env = (false, eval a X.env) :: starEach [] X.env := by rfl) : PE X (.Call (.Name "sorted" p) [.Call (.Name "set" p2) [a] [] q] [] pos) (tSW X.K ta) := by
  refine ⟨fun pins s σ H Q I h => ?_⟩
  refine Call_ (ld_blt I hg hm (u := .builtin "sorted") (by decide +kernel) ?_)
  refine PyProof.Rows.callWith_builtin1 (PyProof.Rows.args_cons ?_ rfl) rfl rfl
  refine Call_ (ld_blt I hg2 hm2 PyProof.Rows.boot_set ?_)
  refine PyProof.Rows.callWith_type1 (PyProof.Rows.args_cons (thn (ha.run pins s σ H _ I h) fun v s1 ⟨x, H1, I1, r1, q1⟩ => PyProof.Rows.args_nil ?_) na) na rfl
  obtain ⟨l, ns, rfl, hq, ⟨h4, h64⟩, q1⟩ := q1
  cases r1
  obtain ⟨its, r, pl, hz⟩ := I1.list hq
  refine setL ns (I1.ok.hd hc) pl.isList (by simpa using r.ints) (by unfold scanBound; omega) fun h' tk c hS hc' hk => ?_
  refine PyProof.Rows.args_nil ?_
  have I2 : Inv X pins σ H1 { s1 with heap := h', toks := tk } := I1.kept hk
  have hcc := setR_few hS
  refine sorted_set hS (I2.ok.hd hc) (by omega) fun s' p out cc ms k g o hp hgt hi hs hmm hll => ?_
  have e1 : ms = sortU ns := pw_uniq hs pw_sortU fun k => by
    rw [hmm k, mem_sortU]
    exact decide_eq_true_iff
  have hlen : (ms.map V.int).length ≤ sizeLine := by
    rw [List.length_map, hll, sizeLine_eq]
    omega
  have hn : H1 p = none := I2.hok.fresh hp
  have J : Inv X pins σ (upd H1 p (.lst (ms.map V.int))) { s1 with heap := s'.heap, gens := s'.gens, drawn := s'.drawn, toks := s'.toks } :=
    L2.Inv.call (s := { s1 with heap := h', toks := tk }) (ch := []) I2 (Un.laid k hp hn) (I2.hok.laid k hp ⟨hlen, out.toList, cc, vals_of_ints hi, hgt⟩) (by rw [g]; exact I2.bare) (fun _ z => nomatch z)
  have e : s' = { s1 with heap := s'.heap, gens := s'.gens, drawn := s'.drawn, toks := s'.toks } := by
    cases s'
    cases s1
    cases o
    rfl
  rw [e]
  refine ⟨.ref p, _, J, rfl, ?_⟩
  rw [e1]
  exact q1 p hn
end
def eSW (fa : SE) : Fx (List D) := fun env st => match fa env st with
  | some (x, s1) => match lstI s1 x with
    | some ns => if ns.length < 4000 ∧ (sortU ns).length < 64 then some ((sortU ns).map D.int, s1) else none
    | none => none
  | none => none
theorem d_sw {mg : Glob} {X : Cx} {a : Expr} {fa : SE} {p p2 q pos : Pos} (hc : X.calm = true) (hm : X.mg "sorted" = none) (hm2 : X.mg "set" = none) (ha : PE X a (tP mg fa)) (hg : Gl X "sorted" := by rfl) (hg2 : Gl X "set" := by rfl)
    (na : starEach [a] X.env = (false, eval a X.env) :: starEach [] X.env := by rfl) (hK : X.K = mg.K := by rfl) : PE X (.Call (.Name "sorted" p) [.Call (.Name "set" p2) [a] [] q] [] pos) (tL mg (eSW fa)) :=
  pe_weak (pe_sw hc hg hm hg2 hm2 ha na) fun σ H Q ⟨E, N, c, env, st, d, st', R, z, k⟩ => by
    unfold eSW at z
    split at z
    · rename_i x s1 z1
      split at z
      · rename_i ns hn
        split at z
        · rename_i hl
          cases z
          refine ⟨E, N, c, env, st, x, _, R, z1, fun v N1 c1 H1 x1 W1 r1 => ?_⟩
          obtain ⟨l, rfl, hq⟩ := RepT.ints W1 r1 hn
          refine ⟨l, ns, rfl, hK ▸ hq, hl, fun p hp => ?_⟩
          exact k _ _ c1 _ (x1.trans (Ex.laidN W1 hp) R.wd) (W1.laidN hp) (back_N R.wd x1 W1 (RN.laid W1 hp (repL_ints _)))
        · cases z
      · cases z
    · cases z
theorem sw_ok {fa : SE} {env : LW.Env} {st : Sto} {Q : List D → Sto → Prop} (h : Ok (fa env st) fun x s => ∃ ns, lstI s x = some ns ∧ (ns.length < 4000 ∧ (sortU ns).length < 64) ∧ Q ((sortU ns).map D.int) s) : Ok (eSW fa env st) Q := by
  obtain ⟨x, s, e, ns, e2, hl, q⟩ := h
  refine ⟨_, s, ?_, q⟩
  unfold eSW
  rw [e]
  dsimp only
  rw [e2]
  dsimp only
  rw [if_pos hl]
/-! ### xs[::-1] -/
def eRev (fa : SE) : Fx (List D) := fun env st => match fa env st with
  | some (x, s1) => match lstR s1 x with
    | some xs => some (xs.reverse, s1)
    | none => none
  | none => none
theorem d_rev {mg : Glob} {X : Cx} {a : Expr} {fa : SE} {k : Nat} {p1 p2 p3 pos : Pos} (ha : PE X a (tP mg fa)) (hK : X.K = mg.K := by rfl) : PE X (.Subscript a (.Slice none none (some (.UnaryOp .USub (.Constant (.int 1) k p1) p2)) p3) pos) (tL mg (eRev fa)) :=
  pe_weak (pe_revL ha) fun σ H Q ⟨E, N, c, env, st, d, st', R, z, k⟩ => by
    unfold eRev at z
    split at z
    · rename_i x s1 z1
      split at z
      · rename_i xs hn
        cases z
        refine ⟨E, N, c, env, st, x, _, R, z1, fun v N1 c1 H1 x1 W1 r1 => ?_⟩
        obtain ⟨l, vs, rfl, hq, rr⟩ := RepT.read W1 r1 hn
        refine ⟨l, vs, rfl, hK ▸ hq, fun p hp => ?_⟩
        exact k _ _ c1 _ (x1.trans (Ex.laidN W1 hp) R.wd) (W1.laidN hp) (back_N R.wd x1 W1 (RN.laid W1 hp rr.reverse))
      · cases z
    · cases z
theorem z_rev {fa : SE} {env : LW.Env} {st : Sto} {Q : List D → Sto → Prop} (h : Ok (fa env st) fun x s => ∃ xs, lstR s x = some xs ∧ Q xs.reverse s) : Ok (eRev fa env st) Q := by
  obtain ⟨x, s, e, xs, e2, q⟩ := h
  refine ⟨_, s, ?_, q⟩
  unfold eRev
  rw [e]
  dsimp only
  rw [e2]
end LW

/-! LwX: a, b, c = x, y, z. -/
namespace LW
open PySem L2 PySem.Spec PyProof.Rows
def sPar3 (i j l : Nat) (fa fb fc : SE) : SS := fun env st => match fa env st with
  | some (x, s1) => match fb env s1 with
    | some (y, s2) => match fc env s2 with
      | some (z, s3) => some (.nx (((env.set i (.val x)).set j (.val y)).set l (.val z)), s3)
      | none => none
    | none => none
  | none => none
section
variable {mg : Glob} {X : Cx} {a b c : Expr} {pos : Pos} {fa fb fc : SE}
theorem s_par3 {i j l : Nat} {x y z : Str} {px py pz pt : Pos} {kt k2 pt2} (hN : X.N.Nodup) (ha : PE X a (tE mg fa)) (hb : PE X b (tE mg fb)) (hd : PE X c (tE mg fc)) (hc : X.calm = true := by rfl) (hi : X.N[i]? = some x := by rfl) (hj : X.N[j]? = some y := by rfl) (hl : X.N[l]? = some z := by rfl) (hij : i ≠ j := by decide) (hil : i ≠ l := by decide) (hjl : j ≠ l := by decide)
    (hx : X.env.scope.names.lookup x = some .local := by rfl) (hy : X.env.scope.names.lookup y = some .local := by rfl) (hz : X.env.scope.names.lookup z = some .local := by rfl)
    (hw : swappedStores [.Tuple [.Name x px, .Name y py, .Name z pz] kt pt] (.Tuple [a, b, c] k2 pt2) X.env = pure (some [x, y, z]) := by rfl)
    (hs : swapsWithSole [.Tuple [.Name x px, .Name y py, .Name z pz] kt pt] (.Tuple [a, b, c] k2 pt2) pos.line X.env = pure false := by rfl)
    (h1 : starEach [a, b, c] X.env = (false, eval a X.env) :: starEach [b, c] X.env := by rfl) (h2 : starEach [b, c] X.env = (false, eval b X.env) :: starEach [c] X.env := by rfl) (h3 : starEach [c] X.env = (false, eval c X.env) :: starEach [] X.env := by rfl) :
    PS X (.Assign [.Tuple [.Name x px, .Name y py, .Name z pz] kt pt] (.Tuple [a, b, c] k2 pt2) pos) (tS mg (sPar3 i j l fa fb fc)) :=
  ps_weak (ps_par3 hc hN hi hj hl hij hil hjl hx hy hz (pa_cons ha (pa_cons hb (pa_cons hd pa_nil h3) h2) h1) hw hs) fun De σ H h => by
    obtain ⟨E, N, cc, env, st, o, st', R, q, p⟩ := tS_def.mp h
    unfold sPar3 at q
    split at q
    · rename_i d1 st1 q1
      split at q
      · rename_i d2 st2 q2
        split at q
        · rename_i d3 st3 q3
          cases q
          refine ⟨E, N, cc, env, st, d1, st1, R, q1, fun v N1 c1 H1 x1 W1 r1 => ?_⟩
          refine ⟨E, N1, c1, env, st1, d2, st2, R.ex x1 W1, q2, fun u N2 c2 H2 x2 W2 r2 => ?_⟩
          have x12 := x1.trans x2 R.wd
          refine ⟨E, N2, c2, env, st2, d3, _, R.ex x12 W2, q3, fun t N3 c3 H3 x3 W3 r3 => ?_⟩
          have x13 := x12.trans x3 R.wd
          refine ⟨v, u, t, rfl, ?_⟩
          have R3 := R.ex x13 W3
          have Ra := R3.set (i := i) (s := .val d1) rfl ⟨v, rfl, Rep.tr (x3.tr W2) (Rep.tr (x2.tr W1) (show Rep mg N1 c1 H1 v d1 from r1))⟩
          have Rb := Ra.set (i := j) (s := .val d2) rfl ⟨u, rfl, Rep.tr (x3.tr W2) (show Rep mg N2 c2 H2 u d2 from r2)⟩
          have Rc := Rb.set (i := l) (s := .val d3) rfl ⟨t, rfl, (show Rep mg N3 c3 H3 t d3 from r3)⟩
          exact p N3 c3 _ H3 (x13.sx R.wd W3) Rc
        · cases q
      · cases q
    · cases q
end
theorem z_par3 {i j l : Nat} {fa fb fc : SE} {env : LW.Env} {st : Sto} {QS : Out → Sto → Prop} (h : Ok (fa env st) fun x s1 => Ok (fb env s1) fun y s2 => Ok (fc env s2) fun z s3 => QS (.nx (((env.set i (.val x)).set j (.val y)).set l (.val z))) s3) : Ok (sPar3 i j l fa fb fc env st) QS := by
  obtain ⟨x, s1, e1, y, s2, e2, z, s3, e3, q⟩ := h
  exact ⟨_, s3, by unfold sPar3; rw [e1]; dsimp only; rw [e2]; dsimp only; rw [e3], q⟩
end LW

/-! LwYa: texts: in, walks over signs, sorted; insert; where a recursion ends. -/
namespace LW
open PySem L2 PyProof.Rows PySem.Spec
/-! ### texts in lists -/
def strsOf : List D → Option (List Str)
  | [] => some []
  | .str x :: r => (match strsOf r with
    | some xs => some (x :: xs)
    | none => none)
  | _ => none
theorem strsOf_eq : ∀ {xs : List D} {zs : List Str}, strsOf xs = some zs → xs = zs.map D.str
  | [], _, e => by cases e; rfl
  | d :: r, zs, e => by
    cases d with
    | str x =>
      unfold strsOf at e
      split at e
      · rename_i ys h
        cases e
        rw [strsOf_eq h]
        rfl
      · cases e
    | _ => cases e
theorem strsOf_map : ∀ (zs : List Str), strsOf (zs.map D.str) = some zs
  | [] => rfl
  | z :: r => by
    show (match strsOf (r.map D.str) with | some xs => some (z :: xs) | none => none) = _
    rw [strsOf_map r]
section
variable {mg : Glob} {N : Prot} {c : List Addr} {H : Hp} {st : Sto} {u : V} {x : D}
theorem RepL.strs : ∀ (zs : List Str), RepL mg N c H (zs.map V.str) (zs.map D.str)
  | [] => .nil
  | z :: r => .cons (.str z) (RepL.strs r)
theorem RepL.of_strs : ∀ {zs : List Str} {vs : List V}, RepL mg N c H vs (zs.map D.str) → vs = zs.map V.str
  | [], _, .nil => rfl
  | z :: r, _, .cons (.str _) t => by rw [RepL.of_strs t]; rfl
end
def lstS (st : Sto) (x : D) : Option (List Str) := match lstR st x with
  | some xs => strsOf xs
  | none => none
theorem RepT.strs {mg : Glob} {N : Prot} {c : List Addr} {H : Hp} {st : Sto} {u : V} {x : D} {zs : List Str} (W : Wd mg N c H st) (h : RepT mg N c H u x) (e : lstS st x = some zs) : ∃ a, u = .ref a ∧ SqL mg.K H a (zs.map V.str) := by
  unfold lstS at e
  split at e
  · rename_i xs hx
    obtain ⟨a, vs, rfl, ha, r⟩ := RepT.read W h hx
    rw [strsOf_eq e] at r
    rw [r.of_strs] at ha
    exact ⟨a, rfl, ha⟩
  · cases e
/-! ### in -/
/-- a text in a tuple of texts -/
def oInT (neg : Bool) : D → D → Sto → Option D := fun x y _ => match x, y with
  | .str z, .tup ys => (match strsOf ys with
    | some zs => some (.bl (if neg then !decide (z ∈ zs) else decide (z ∈ zs)))
    | none => none)
  | _, _ => none
theorem any_eqV {z : Str} : ∀ (zs : List Str), inV (.str z) (zs.map V.str) = decide (z ∈ zs)
  | [] => rfl
  | y :: r => by
    have ih := any_eqV (z := z) r
    unfold inV at ih ⊢
    rw [List.map_cons, List.any_cons, ih]
    show ((y == z) || decide (z ∈ r)) = _
    by_cases e : y = z
    · subst e; simp
    · have e2 : ¬ z = y := fun q => e q.symm
      simp [e, e2]
theorem all_flat : ∀ (zs : List Str), (zs.map V.str).all flatV = true
  | [] => rfl
  | z :: r => by
    rw [List.map_cons, List.all_cons, all_flat r]
    rfl
theorem ok_inT {mg : Glob} {neg : Bool} : OpOk mg (RE mg) (rIn mg.K neg) (oInT neg) := by
  intro N c H st u v x y d Q W p1 p2 e k
  unfold oInT at e
  split at e
  · rename_i z ys
    split at e
    · rename_i zs hz
      cases e
      obtain ⟨a, vs, rfl, ha, r⟩ := p2.tup
      rw [strsOf_eq hz] at r
      have ev := r.of_strs
      subst ev
      refine ⟨a, _, rfl, .inr (SqT.of ha), by rw [p1.str]; rfl, all_flat _, ?_⟩
      rw [p1.str, any_eqV]
      exact k _ N c H Ex.refl W (.bl _)
    · cases e
  · cases e
/-- data in a list -/
def oInL (neg : Bool) : D → D → Sto → Option D := fun x y st => match toPy 60 st x, toPy 60 st y with
  | some p, some (.list ds) => some (.bl (if neg then !ds.any fun z => PyData.eqv z p else ds.any fun z => PyData.eqv z p))
  | _, _ => none
theorem ok_inL {mg : Glob} : OpOk mg (RE mg) (rInD mg.K) (oInL false) := by
  intro N c H st u v x y d Q W p1 p2 e k
  unfold oInL at e
  split at e
  · rename_i p ds hp hd
    cases e
    exact ⟨p, ds, dp_T W p1 hp, dp_T W p2 hd, toPy_shaped hp, toPy_shaped hd, k _ N c H Ex.refl W (.bl _)⟩
  · cases e
theorem ok_ninL {mg : Glob} : OpOk mg (RE mg) (rNotInD mg.K) (oInL true) := by
  intro N c H st u v x y d Q W p1 p2 e k
  unfold oInL at e
  split at e
  · rename_i p ds hp hd
    cases e
    exact ⟨p, ds, dp_T W p1 hp, dp_T W p2 hd, toPy_shaped hp, toPy_shaped hd, k _ N c H Ex.refl W (.bl _)⟩
  · cases e
/-- one sign in a text -/
def oInS (neg : Bool) : D → D → Sto → Option D := fun x y _ => match x, y with
  | .str z, .str t => (match z.cps.toList with
    | [ch] => some (.bl (if neg then !decide (ch ∈ t.cps.toList) else decide (ch ∈ t.cps.toList)))
    | _ => none)
  | _, _ => none
theorem one_sign {z : Str} {ch : Nat} (h : z.cps.toList = [ch]) : z = ⟨#[ch]⟩ := by
  cases z with
  | mk a =>
    congr 1
    exact Array.toList_inj.mp h
theorem ok_inS {mg : Glob} : OpOk mg (RE mg) (fun x y H Q => ∃ (c : Nat) (z : Str), x = .str ⟨#[c]⟩ ∧ y = .str z ∧ Q (.bl (decide (c ∈ z.cps.toList))) H) (oInS false) := by
  intro N c H st u v x y d Q W p1 p2 e k
  unfold oInS at e
  split at e
  · rename_i z t
    split at e
    · rename_i ch hc
      cases e
      exact ⟨ch, t, by rw [p1.str, one_sign hc], p2.str, k _ N c H Ex.refl W (.bl _)⟩
    · cases e
  · cases e
theorem ok_ninS {mg : Glob} : OpOk mg (RE mg) (fun x y H Q => ∃ (c : Nat) (z : Str), x = .str ⟨#[c]⟩ ∧ y = .str z ∧ Q (.bl (!decide (c ∈ z.cps.toList))) H) (oInS true) := by
  intro N c H st u v x y d Q W p1 p2 e k
  unfold oInS at e
  split at e
  · rename_i z t
    split at e
    · rename_i ch hc
      cases e
      exact ⟨ch, t, by rw [p1.str, one_sign hc], p2.str, k _ N c H Ex.refl W (.bl _)⟩
    · cases e
  · cases e
section
variable {mg : Glob} {X : Cx} {a b : Expr} {pos : Pos} {fa fb : SE}
theorem d_inT (ha : PE X a (tP mg fa)) (hb : PE X b (tP mg fb)) (hK : X.K = mg.K := by rfl) (hn : lastMarks [.In] [b] = false := by rfl) : PE X (.Compare a [.In] [b] pos) (tE mg (eOp (oInT false) fa fb)) := d_cmp (hK ▸ op_in_seq) ok_inT back_E ha hb hn
theorem d_ninT (ha : PE X a (tP mg fa)) (hb : PE X b (tP mg fb)) (hK : X.K = mg.K := by rfl) (hn : lastMarks [.NotIn] [b] = false := by rfl) : PE X (.Compare a [.NotIn] [b] pos) (tE mg (eOp (oInT true) fa fb)) := d_cmp (hK ▸ op_notIn_seq) ok_inT back_E ha hb hn
theorem d_inL (hu : X.A.units + 65 < cLine) (ha : PE X a (tP mg fa)) (hb : PE X b (tP mg fb)) (hK : X.K = mg.K := by rfl) (hn : lastMarks [.In] [b] = false := by rfl) : PE X (.Compare a [.In] [b] pos) (tE mg (eOp (oInL false) fa fb)) := d_cmp (hK ▸ op_inD hu) ok_inL back_E ha hb hn
theorem d_ninL (hu : X.A.units + 65 < cLine) (ha : PE X a (tP mg fa)) (hb : PE X b (tP mg fb)) (hK : X.K = mg.K := by rfl) (hn : lastMarks [.NotIn] [b] = false := by rfl) : PE X (.Compare a [.NotIn] [b] pos) (tE mg (eOp (oInL true) fa fb)) := d_cmp (hK ▸ op_notInD hu) ok_ninL back_E ha hb hn
theorem d_inS (ha : PE X a (tP mg fa)) (hb : PE X b (tP mg fb)) (hn : lastMarks [.In] [b] = false := by rfl) : PE X (.Compare a [.In] [b] pos) (tE mg (eOp (oInS false) fa fb)) := d_cmp op_in_sign ok_inS back_E ha hb hn
theorem d_ninS (ha : PE X a (tP mg fa)) (hb : PE X b (tP mg fb)) (hn : lastMarks [.NotIn] [b] = false := by rfl) : PE X (.Compare a [.NotIn] [b] pos) (tE mg (eOp (oInS true) fa fb)) := d_cmp op_notIn_sign ok_ninS back_E ha hb hn
end
/-! ### a text of the module; walks over signs -/
def GS (mg : Str → Option Value) (x : Str) (z : Str) : Prop := ∃ t, mg x = some (.str z t)
theorem d_gstr {mg : Glob} {X : Cx} {x z : Str} {pos : Pos} (h : GS X.mg x z) (hg : Gl X x := by rfl) (hd : (x == ("__debug__" : Str)) = false := by decide) : PE X (.Name x pos) (tE mg (eC (.str z))) := by
  obtain ⟨t, h⟩ := h
  exact d_glob (v := .str z) hg h ⟨t, rfl⟩ (fun _ _ _ => .str z) hd
theorem gs_mk {K : PySem.W.Frag} {h : Heap} {mg : Str → Option Value} {x z : Str} {t : Tok} (X : K.In h) (G : h.Ns mainGlobals mg) (a : PySem.W.nsIn K mainGlobals x = some (some (.str z t))) : GS mg x z := ⟨t, PySem.W.mg_of X G a⟩
def signsD (x : Str) : List D := x.cps.toList.map fun ch => D.str ⟨#[ch]⟩
def iSgn (f : SE) : Fx Src := fun env st => match f env st with
  | some (.str x, s1) => some ((signsD x, noChk), s1)
  | _ => none
theorem il_str {mg : Glob} {N : Prot} {c : List Addr} {H : Hp} {x : Str} : ItL mg (Its x) (signsD x, noChk) N c H where
  stop := fun N' c' H' st _ _ _ => by
    show x.cps.size ≤ (signsD x).length
    unfold signsD
    rw [List.length_map, Array.length_toList]
    exact Nat.le_refl _
  go := fun i N' c' H' st hi _ _ _ => by
    show i < x.cps.size
    have : i < (signsD x).length := hi
    unfold signsD at this
    rwa [List.length_map, Array.length_toList] at this
  yld := fun i N' c' H' st v H2 hi _ W _ y => by
    obtain ⟨rfl, ch, hc, rfl⟩ := y
    refine ⟨_, ?_, Ex.refl, W, .str ⟨#[ch]⟩⟩
    show (signsD x)[i]? = _
    unfold signsD
    rw [List.getElem?_map, Array.getElem?_toList, hc]
    rfl
theorem i_str {mg : Glob} {X : Cx} {tg e : Expr} {f : SE} (he : PE X e (tP mg f)) : PI X tg e (tI mg (iSgn f)) := pi_weak (pi_str he) fun σ H R ⟨E, N, c, env, st, xs, st', Rl, q, k⟩ => by
  unfold iSgn at q
  split at q
  · rename_i x s1 q1
    cases q
    exact ⟨E, N, c, env, st, _, _, Rl, q1, fun v N1 c1 H1 x1 W1 r1 => ⟨x, r1.str, k _ N1 c1 H1 x1 W1 il_str⟩⟩
  · cases q
/-! ### sorted texts -/
abbrev cpL (a : Str) : List Nat := a.cps.toList
theorem cpL_inj {a b : Str} (h : cpL a = cpL b) : a = b := by
  cases a with
  | mk x => cases b with
    | mk y => exact congrArg _ (Array.toList_inj.mp h)
def leS (a b : Str) : Prop := cpL a ≤ cpL b
instance {a b : Str} : Decidable (leS a b) := inferInstanceAs (Decidable (cpL a ≤ cpL b))
theorem leS_refl (a : Str) : leS a a := List.le_refl _
theorem leS_trans {a b d : Str} (h : leS a b) (h' : leS b d) : leS a d := List.le_trans h h'
theorem leS_total (a b : Str) : leS a b ∨ leS b a := List.le_total _ _
theorem leS_anti {a b : Str} (h : leS a b) (h' : leS b a) : a = b := cpL_inj (List.le_antisymm h h')
theorem lt_leS {a b : Str} (h : ltCps (cpL b) (cpL a) = false) : leS a b := by
  rw [ltCps_eq] at h
  exact List.not_lt.mp (of_decide_eq_false h)
def insS (x : Str) : List Str → List Str
  | [] => [x]
  | y :: r => if leS x y then x :: y :: r else y :: insS x r
def sortS (zs : List Str) : List Str := zs.foldr insS []
theorem perm_insS {x : Str} : ∀ {l : List Str}, (insS x l).Perm (x :: l)
  | [] => List.Perm.refl _
  | y :: r => by
    unfold insS
    split
    · exact List.Perm.refl _
    · exact (List.Perm.cons y perm_insS).trans (List.Perm.swap x y r)
theorem perm_sortS : ∀ {l : List Str}, (sortS l).Perm l
  | [] => List.Perm.refl _
  | x :: r => perm_insS.trans (List.Perm.cons x perm_sortS)
theorem pw_insS {x : Str} : ∀ {l : List Str}, l.Pairwise leS → (insS x l).Pairwise leS
  | [], _ => List.pairwise_singleton _ _
  | y :: r, h => by
    obtain ⟨h1, h2⟩ := List.pairwise_cons.mp h
    unfold insS
    split
    · rename_i hx
      refine List.pairwise_cons.mpr ⟨fun z hz => ?_, h⟩
      rcases List.mem_cons.mp hz with rfl | hz
      · exact hx
      · exact leS_trans hx (h1 z hz)
    · rename_i hx
      have hyx : leS y x := (leS_total x y).resolve_left hx
      refine List.pairwise_cons.mpr ⟨fun z hz => ?_, pw_insS h2⟩
      rcases List.mem_cons.mp (perm_insS.mem_iff.mp hz) with rfl | hz
      · exact hyx
      · exact h1 z hz
theorem pw_sortS : ∀ {l : List Str}, (sortS l).Pairwise leS
  | [] => List.Pairwise.nil
  | x :: r => pw_insS (pw_sortS (l := r))
theorem sortS_uniq {l m : List Str} (hp : l.Perm m) (hl : l.Pairwise leS) : l = sortS m :=
  (hp.trans perm_sortS.symm).eq_of_pairwise (le := leS) (fun a b _ _ h1 h2 => leS_anti h1 h2) hl pw_sortS
theorem rising_pw : ∀ (r : List Str) (p : Str), risingS p r = true → (p :: r).Pairwise leS
  | [], p, _ => List.pairwise_singleton _ _
  | x :: r, p, h => by
    unfold risingS at h
    rw [Bool.and_eq_true] at h
    have ih := rising_pw r x h.2
    have px : leS p x := lt_leS (by simpa using h.1)
    refine List.pairwise_cons.mpr ⟨fun z hz => ?_, ih⟩
    rcases List.mem_cons.mp hz with rfl | hz
    · exact px
    · exact leS_trans px ((List.pairwise_cons.mp ih).1 z hz)
theorem sorted_pw : ∀ (l : List Str), sortedS l = true → l.Pairwise leS
  | [], _ => List.Pairwise.nil
  | x :: r, h => rising_pw r x h
def gSortS : List D → Sto → Option (List D) := fun ds st => match ds with
  | [x] => (match lstS st x with
    | some zs => if zs.length < 64 then some ((sortS zs).map D.str) else none
    | none => none)
  | _ => none
theorem ok_sortS {mg : Glob} : BiOk mg (RN mg) (rSortedS mg.K) gSortS := by
  intro N c H st us ds d Q W p q k
  unfold gSortS at q
  split at q
  · split at q
    · rename_i zs hn
      split at q
      · rename_i hl
        cases q
        obtain ⟨u, rfl, h⟩ := tl1 p
        obtain ⟨a, rfl, ha⟩ := h.strs W hn
        refine ⟨a, zs, rfl, ha, hl, fun ys p hp hs hl => ?_⟩
        rw [sortS_uniq hp (sorted_pw ys hs)]
        exact k _ _ _ _ (Ex.laidN W hl) (W.laidN hl) (RN.laid W hl (RepL.strs _))
      · cases q
    · cases q
  · cases q
section
variable {mg : Glob} {X : Cx} {e : Expr} {es : List Expr} {p pos : Pos} {f : SA}
theorem d_sortS (hm : X.mg "sorted" = none) (ha : PA X (e :: es) (tAP mg f)) (hg : Gl X "sorted" := by rfl) (he : starEach (e :: es) X.env = (false, eval e X.env) :: starEach es X.env := by rfl) (hpl : (backTo pos (starEach es X.env)).any (·.1) = false := by rfl) (hK : X.K = mg.K := by rfl) : PE X (.Call (.Name "sorted" p) (e :: es) [] pos) (tL mg (eBi gSortS f)) :=
  d_bi (hK ▸ cr_sortedS) ok_sortS back_N hg hm (by decide +kernel) ha (by decide) (by decide) he hpl
end
/-! ### where a recursion ends -/
theorem okF_0 {P : Program} {w : World} {K : PySem.W.Frag} {mg : Str → Option Value} {base : Heap} {k : Nat} {x : Str} {st : Stmt} {ps : List Str} (F : FT K mg x st)
    (hb : ∀ (kV doc pm : Value) (an : Option Addr) (cdv ct : Value) (us : List Value), us.length = ps.length → bindArgs (PySem.W.fnOf x x (defArgs st) (defBody st) (defScope st) .none kV doc pm an cdv ct) ⟨us, []⟩ = pure (ps.zip us)) : OkF P w K mg base k x ps (fun _ _ => none) := by
  obtain ⟨f, fd, hm, F⟩ := F
  refine ⟨f, fd, hm, F.kp, ⟨fun vs H Q E h => h.1, fun A outer s H args us vs Q E _ _ _ _ h => ?_⟩, F.binds hb, fun _ _ _ e => by cases e⟩
  obtain ⟨_, N, c, ds, st, d, st', _, _, q, _⟩ := h
  cases q
theorem OkF.mono {P : Program} {w : World} {K : PySem.W.Frag} {mg : Str → Option Value} {base : Heap} {j k : Nat} {x : Str} {ps : List Str} {g : FM} (h : OkF P w K mg base j x ps g) (hl : j ≤ k) : OkF P w K mg base k x ps g := by
  obtain ⟨f, fd, hm, hk, F, hb, ar⟩ := h
  exact ⟨f, fd, hm, hk, F.mono hl, hb, ar⟩
/-! ### insert -/
def sIns (i : Nat) (fj fe : SE) : SS := fun env st => match fj env st with
  | some (.int j, s1) => (match fe env s1 with
    | some (d, s2) => (match env[i]? with
      | some (.own xs) => if xs.length < 1000000 ∧ 0 ≤ j ∧ j < 2 ^ 62 then some (.nx (env.set i (.own (xs.take j.toNat ++ [d] ++ xs.drop j.toNat))), s2) else none
      | _ => none)
    | none => none)
  | _ => none
section
variable {mg : Glob} {X : Cx} {e ej : Expr} {pos apos cpos : Pos} {fe fj : SE}
theorem s_ins {i : Nat} {x : Str} {p1 : Pos} (hj : PE X ej (tP mg fj)) (he : PE X e (tE mg fe)) (hN : X.N[i]? = some x := by rfl) (hv : Vis X.env.scope x := by first | exact Or.inl rfl | exact Or.inr (Or.inl rfl) | exact Or.inr (Or.inr rfl)) (hd : (x == ("__debug__" : Str)) = false := by decide)
    (hcd : (x == ("__classdict__" : Str)) = false := by decide) (hs : swapsWith (.Call (.Attribute (.Name x p1) "insert" apos) [ej, e] [] cpos) none pos.line X.env = pure false := by rfl)
    (hbase : attributeBase (.Name x p1) "insert" X.env (eval (.Name x p1) X.env) = eval (.Name x p1) X.env := by rfl)
    (hfew : ((backTo cpos (starEach [ej, e] X.env)).all (fun x => !x.1) && (backToKw cpos (keywordEach [] X.env)).all (fun x => x.1.isSome)
      && decide ([ej, e].length + ([] : List Keyword).length + (if ([] : List Keyword).isEmpty then 0 else 1) < 30)) = true := by rfl)
    (hline : (apos.endLine == cpos.line) = true := by rfl) (hst : starEach [ej, e] X.env = (false, eval ej X.env) :: starEach [e] X.env := by rfl) (hst2 : starEach [e] X.env = (false, eval e X.env) :: starEach [] X.env := by rfl) (hplain : (backTo cpos (starEach [e] X.env)).any (·.1) = false := by rfl) :
    PS X (.Expr (.Call (.Attribute (.Name x p1) "insert" apos) [ej, e] [] cpos) pos) (tS mg (sIns i fj fe)) :=
  ps_weak (ps_expr (pe_bm PySem.F.plainAttrs_list PySem.F.slot_list_insert PySem.F.type_list_insert mt_insert (pe_var hN hv hd hcd) (pa_cons hj (pa_cons he pa_nil hst2) hst) hbase hfew hline hst hplain) hs) fun De σ H h => by
    obtain ⟨E, N, c, env, st, o, st', R, q, p⟩ := tS_def.mp h
    unfold sIns at q
    split at q
    · rename_i j s1 q1
      split at q
      · rename_i d s2 q2
        split at q
        · rename_i xs hx
          split at q
          · rename_i hl
            cases q
            obtain ⟨a, vs, ea, ha, rr⟩ := R.sl i _ hx
            have ea := join_some ea
            refine ⟨.ref a, ea, .inl ⟨rfl, vs, SqL.of ha⟩, E, N, c, env, st, .int j, s1, R, q1, fun u N1 c1 H1 x1 W1 r1 => ⟨E, N1, c1, env, s1, d, _, R.ex x1 W1, q2, fun v N2 c2 H2 x2 W2 r2 => ?_⟩⟩
            have R1 := R.ex x1 W1
            have R2 := R1.ex x2 W2
            obtain ⟨b, us, eb, hb, r3⟩ := R2.sl i _ hx
            rw [ea] at eb
            cases eb
            have wr := R2.write (vs := us) hx ea (((r3.take j.toNat).append (.cons r2 .nil)).append (r3.drop j.toNat))
            have ej := r1.int
            subst ej
            exact ⟨a, us, j, v, rfl, rfl, hb, by rw [r3.length]; exact sz7 hl.1, hl.2.1, Int.lt_trans hl.2.2 (by decide), p N2 c2 σ _ (((x1.trans x2 R.wd).sx R.wd W2).trans wr.2) wr.1⟩
          · cases q
        · cases q
      · cases q
    · cases q
end
end LW

/-! LwYb: dicts whose keys are numbers and texts: as data. -/
namespace LW
open PySem L2 PyProof.Rows
abbrev DK := List Key × List D
instance memKdec (x : Key) (ks : List Key) : Decidable (x ∈ ks) := decidable_of_iff ((ks.any fun y => decide (y = x)) = true) (by
  rw [List.any_eq_true]
  exact ⟨fun ⟨y, h, e⟩ => of_decide_eq_true e ▸ h, fun h => ⟨x, h, decide_eq_true rfl⟩⟩)
/-! ### plain words -/
def keyD : D → Option Key
  | .int i => some (.inl i)
  | .str z => some (.inr z)
  | _ => none
def keyV : Key → D
  | .inl i => .int i
  | .inr z => .str z
theorem keyD_V {k : Key} : keyD (keyV k) = some k := by cases k <;> rfl
theorem keyD_eq {d : D} {k : Key} (h : keyD d = some k) : d = keyV k := by
  cases d <;> first | (cases h; rfl) | cases h
def getD : List Key → List D → Key → Option D
  | k :: ks, d :: ds, x => if k = x then some d else getD ks ds x
  | _, _, _ => none
def putV : List Key → List D → Key → D → List D
  | k :: ks, d :: ds, x, y => (if k = x then y else d) :: putV ks ds x y
  | _, _, _, _ => []
def putKD (p : DK) (x : Key) (y : D) : DK := if x ∈ p.1 then (p.1, putV p.1 p.2 x y) else (p.1 ++ [x], p.2 ++ [y])
def mergeD (acc : DK) (l : List (Key × D)) : DK := l.foldl (fun a kv => putKD a kv.1 kv.2) acc
/-- pairs (key, value) of a list of tuples -/
def pairsOf : List D → Option (List (Key × D))
  | [] => some []
  | .tup [a, b] :: r => (match keyD a, pairsOf r with
    | some k, some l => some ((k, b) :: l)
    | _, _ => none)
  | _ => none
section
variable {mg : Glob} {N : Prot} {c : List Addr} {H : Hp} {st : Sto} {u : V} {x : D}
theorem RepT.key {k : Key} (h : RepT mg N c H u x) (e : keyD x = some k) : u = kV k := by
  have := keyD_eq e
  subst this
  cases k with
  | inl i => exact h.int
  | inr z => exact h.str
theorem Rep.key {k : Key} : Rep mg N c H (kV k) (keyV k) := by
  cases k with
  | inl i => exact .int i
  | inr z => exact .str z
theorem RepT.dic {ks : List Key} {ds : List D} (h : RepT mg N c H u (.dic ks ds)) : ∃ a kvs, u = .ref a ∧ Rd H a (.dK kvs) ∧ kvs.map (·.1) = ks ∧ RepL mg N c H (kvs.map (·.2)) ds := by
  rcases h with h | ⟨_, _, _, _, e, _⟩
  · cases h with
    | dic h n hn r => exact ⟨_, _, rfl, .inl h, hn, r⟩
    | dfz h n hn r => exact ⟨_, _, rfl, .inr ⟨_, h⟩, hn, r⟩
  · cases e
theorem get_rel : ∀ {kvs : List (Key × V)} {ds : List D} {k : Key} {d : D}, RepL mg N c H (kvs.map (·.2)) ds → getD (kvs.map (·.1)) ds k = some d → ∃ v, valV kvs k = some v ∧ Rep mg N c H v d
  | [], _, _, _, _, e => by cases e
  | kv :: r, _, k, d, .cons h t, e => by
    rw [List.map_cons] at e
    unfold getD at e
    split at e
    · rename_i hk
      cases e
      exact ⟨kv.2, valV_pos hk, h⟩
    · rename_i hk
      obtain ⟨v, e1, r1⟩ := get_rel t e
      exact ⟨v, by rw [valV_neg hk]; exact e1, r1⟩
theorem any_mem {kvs : List (Key × V)} {k : Key} : (kvs.any fun kv => decide (kv.1 = k)) = decide (k ∈ kvs.map (·.1)) := by
  rw [List.any_eq, decide_eq_decide]
  constructor
  · rintro ⟨kv, h1, h2⟩
    exact List.mem_map.mpr ⟨kv, h1, of_decide_eq_true h2⟩
  · intro h
    obtain ⟨kv, h1, h2⟩ := List.mem_map.mp h
    exact ⟨kv, h1, decide_eq_true h2⟩
theorem has_rel {kvs : List (Key × V)} {k : Key} : (valV kvs k).isSome = decide (k ∈ kvs.map (·.1)) := by rw [← valV_any, any_mem]
theorem putV_rel {v : V} {d : D} {k : Key} (h : Rep mg N c H v d) : ∀ {kvs : List (Key × V)} {ds : List D}, RepL mg N c H (kvs.map (·.2)) ds → RepL mg N c H ((kvs.map (fun kv => if kv.1 = k then (kv.1, v) else kv)).map (·.2)) (putV (kvs.map (·.1)) ds k d)
  | [], _, .nil => .nil
  | kv :: r, _, .cons q t => by
    rw [List.map_cons, List.map_cons, List.map_cons]
    unfold putV
    by_cases e : kv.1 = k
    · rw [if_pos e, if_pos e]
      exact .cons h (putV_rel h t)
    · rw [if_neg e, if_neg e]
      exact .cons q (putV_rel h t)
theorem put_rel {v : V} {d : D} {k : Key} {kvs : List (Key × V)} {ds : List D} (h : Rep mg N c H v d) (r : RepL mg N c H (kvs.map (·.2)) ds) : (putK kvs k v).map (·.1) = (putKD (kvs.map (·.1), ds) k d).1 ∧ RepL mg N c H ((putK kvs k v).map (·.2)) (putKD (kvs.map (·.1), ds) k d).2 := by
  unfold putK putKD
  rw [any_mem]
  by_cases e : k ∈ kvs.map (·.1)
  · rw [if_pos (decide_eq_true e), if_pos e]
    refine ⟨?_, putV_rel h r⟩
    rw [List.map_map]
    refine List.map_congr_left fun kv _ => ?_
    show (if kv.1 = k then (kv.1, v) else kv).1 = kv.1
    split <;> rfl
  · rw [if_neg (by rw [decide_eq_false e]; exact Bool.false_ne_true), if_neg e]
    exact ⟨by rw [List.map_append]; rfl, by rw [List.map_append]; exact r.append (.cons h .nil)⟩
theorem merge_rel : ∀ {l : List (Key × D)} {more : List (Key × V)} {kvs : List (Key × V)} {ds : List D}, RepL mg N c H (kvs.map (·.2)) ds → more.map (·.1) = l.map (·.1) → RepL mg N c H (more.map (·.2)) (l.map (·.2)) → (mergeK kvs more).map (·.1) = (mergeD (kvs.map (·.1), ds) l).1 ∧ RepL mg N c H ((mergeK kvs more).map (·.2)) (mergeD (kvs.map (·.1), ds) l).2
  | [], [], kvs, ds, r, _, _ => ⟨rfl, r⟩
  | [], _ :: _, _, _, _, e, _ => by cases e
  | _ :: _, [], _, _, _, e, _ => by cases e
  | kd :: l, kv :: more, kvs, ds, r, e, .cons h t => by
    have e1 : kv.1 = kd.1 := by injection e
    have e2 : more.map (·.1) = l.map (·.1) := by injection e
    obtain ⟨p1, p2⟩ := put_rel (k := kd.1) h r
    show (mergeK (putK kvs kv.1 kv.2) more).map (·.1) = (mergeD (putKD (kvs.map (·.1), ds) kd.1 kd.2) l).1 ∧ RepL mg N c H ((mergeK (putK kvs kv.1 kv.2) more).map (·.2)) (mergeD (putKD (kvs.map (·.1), ds) kd.1 kd.2) l).2
    rw [e1]
    have ih := merge_rel (l := l) (more := more) p2 e2 t
    rw [p1] at ih
    exact ih
theorem pairs_rel : ∀ {xs : List D} {vs : List V} {l : List (Key × D)}, RepL mg N c H vs xs → pairsOf xs = some l → ∃ (ps : List Addr) (kvs : List (Key × V)), vs = ps.map V.ref ∧ Paired (fun p kv => SqT mg.K H p [kV kv.1, kv.2]) ps kvs ∧ kvs.map (·.1) = l.map (·.1) ∧ RepL mg N c H (kvs.map (·.2)) (l.map (·.2))
  | [], _, _, .nil, e => by cases e; exact ⟨[], [], rfl, .nil, rfl, .nil⟩
  | x :: xs, _, l, .cons h t, e => by
    unfold pairsOf at e
    split at e
    · rename_i heq
      cases heq
    · rename_i a b r heq
      cases heq
      split at e
      · rename_i k l' hk hl
        cases e
        obtain ⟨ps, kvs, rfl, hp, e1, r1⟩ := pairs_rel t hl
        obtain ⟨p, us, rfl, hh, rr⟩ := RepT.tup (.inl h)
        cases rr with
        | cons ha tt => cases tt with
          | cons hb tt => cases tt with
            | nil =>
              have ek := RepT.key (.inl ha) hk
              subst ek
              exact ⟨p :: ps, (k, _) :: kvs, rfl, .cons (SqT.of hh) hp, by rw [List.map_cons, List.map_cons, e1], .cons hb r1⟩
      · cases e
    · cases e
end
/-! ### a new dict -/
def RD (mg : Glob) : Told DK := fun _ _ H N' c' H' v d => ∃ p kvs, v = .ref p ∧ H p = none ∧ N' p ∧ p ∉ c' ∧ H' p = some (.dK kvs) ∧ kvs.map (·.1) = d.1 ∧ RepL mg N' c' H' (kvs.map (·.2)) d.2
abbrev tD (mg : Glob) (f : Fx DK) : TE := tX mg (RD mg) f
def eD (f : Fx DK) : SE := fun env st => (f env st).map fun p => (.dic p.1.1 p.1.2, p.2)
section
variable {mg : Glob} {N N' : Prot} {c c' : List Addr} {H H' : Hp} {st st' : Sto} {v : V} {X : Cx} {e : Expr}
theorem back_D : Back mg (RD mg) := fun W x W1 ⟨p, vs, e, hp, r⟩ => ⟨p, vs, e, x.free W W1 hp, r⟩
theorem RD.give {d : DK} (W : Wd mg N c H st) (x : Ex N c H N' c' H') (W' : Wd mg N' c' H' st') (h : RD mg N c H N' c' H' v d) : ∃ N'', Ex N c H N'' c' H' ∧ Wd mg N'' c' H' st' ∧ Rep mg N'' c' H' v (.dic d.1 d.2) := by
  obtain ⟨p, kvs, rfl, hp, np, nc, hv, hm, r⟩ := h
  have less : ∀ a, (N' a ∧ a ≠ p) → N' a := fun a z => z.1
  refine ⟨fun a => N' a ∧ a ≠ p, ⟨x.keep, fun a z => x.new a z.1, fun a z => ⟨x.mono a z, fun e => W.trk a z (by rw [e]; exact hp)⟩, x.pre, x.newc⟩, W'.less less fun a z => ⟨W'.cn a z, fun e => nc (e ▸ z)⟩, ?_⟩
  exact .dic hv (fun z => z.2 rfl) hm (r.tr (Tr.less less))
theorem d_giveD {f : Fx DK} (h : PE X e (tD mg f)) : PE X e (tE mg (eD f)) := pe_weak h fun σ H Q ⟨E, N, c, env, st, d, st', R, q, k⟩ => by
  unfold eD at q
  cases qf : f env st with
  | none => rw [qf] at q; cases q
  | some p =>
    obtain ⟨xs, s1⟩ := p
    rw [qf] at q
    cases q
    refine ⟨E, N, c, env, st, xs, _, R, qf, fun v N' c' H' x W r => ?_⟩
    obtain ⟨N'', x2, W2, r2⟩ := r.give R.wd x W
    exact k v N'' c' H' x2 W2 r2
theorem RD.laid {kvs : List (Key × V)} {d : DK} {p : Addr} (W : Wd mg N c H st) (hp : H p = none) (hm : kvs.map (·.1) = d.1) (r : RepL mg N c H (kvs.map (·.2)) d.2) : RD mg N c H (fun a => N a ∨ a = p) c (upd H p (.dK kvs)) (.ref p) d :=
  ⟨p, kvs, rfl, hp, .inr rfl, W.cnone hp, upd_same, hm, r.tr ((Ex.laidN W hp).tr W)⟩
end
/-! ### dict(list of pairs), dict(d), {} -/
def gDictP : List D → Sto → Option DK := fun ds st => match ds with
  | [x] => (match lstR st x with
    | some xs => (match pairsOf xs with
      | some l => some (mergeD ([], []) l)
      | none => none)
    | none => none)
  | _ => none
def gDictD : List D → Sto → Option DK := fun ds _ => match ds with
  | [.dic ks vs] => some (ks, vs)
  | _ => none
def rDictP (K : PySem.W.Frag) : List V → Hp → VK → Prop := fun xs H Q => ∃ (a : Addr) (ps : List Addr) (kvs : List (Key × V)), xs = [.ref a] ∧ SqL K H a (ps.map V.ref) ∧ Paired (fun p kv => SqT K H p [kV kv.1, kv.2]) ps kvs ∧ ∀ p, H p = none → Q (.ref p) (upd H p (.dK (mergeK [] kvs)))
theorem ok_dictP {mg : Glob} : BiOk mg (RD mg) (rDictP mg.K) gDictP := by
  intro N c H st us ds d Q W p q k
  unfold gDictP at q
  split at q
  · rename_i x
    split at q
    · rename_i xs hx
      split at q
      · rename_i l hl
        cases q
        obtain ⟨u, rfl, h⟩ := tl1 p
        obtain ⟨a, vs, rfl, ha, r⟩ := RepT.read W h hx
        obtain ⟨ps, kvs, rfl, hp, e1, r1⟩ := pairs_rel r hl
        refine ⟨a, ps, kvs, rfl, ha, hp, fun p hp => ?_⟩
        obtain ⟨m1, m2⟩ := merge_rel (l := l) (more := kvs) (kvs := []) (ds := []) .nil e1 r1
        exact k _ _ _ _ (Ex.laidN W hp) (W.laidN hp) (RD.laid W hp m1 m2)
      · cases q
    · cases q
  · cases q
def rDictD : List V → Hp → VK → Prop := fun xs H Q => ∃ (a : Addr) (kvs : List (Key × V)), xs = [.ref a] ∧ Rd H a (.dK kvs) ∧ ∀ p, H p = none → Q (.ref p) (upd H p (.dK kvs))
theorem ok_dictD {mg : Glob} : BiOk mg (RD mg) rDictD gDictD := by
  intro N c H st us ds d Q W p q k
  unfold gDictD at q
  split at q
  · rename_i ks vs
    cases q
    obtain ⟨u, rfl, h⟩ := tl1 p
    obtain ⟨a, kvs, rfl, ha, hn, r⟩ := h.dic
    exact ⟨a, kvs, rfl, ha, fun p hp => k _ _ _ _ (Ex.laidN W hp) (W.laidN hp) (RD.laid W hp hn r)⟩
  · cases q
def lD0 : Fx DK := fun _ st => some (([], []), st)
section
variable {mg : Glob} {X : Cx} {e : Expr} {es : List Expr} {p pos : Pos} {f : SA}
theorem d_dictP (hc : X.calm = true) (hm : X.mg "dict" = none) (ha : PA X (e :: es) (tAP mg f)) (hg : Gl X "dict" := by rfl) (he : starEach (e :: es) X.env = (false, eval e X.env) :: starEach es X.env := by rfl) (hpl : (backTo pos (starEach es X.env)).any (·.1) = false := by rfl) (hK : X.K = mg.K := by rfl) : PE X (.Call (.Name "dict" p) (e :: es) [] pos) (tD mg (eBi gDictP f)) :=
  d_bt (hK ▸ call_dictP hc) ok_dictP back_D hg hm (by decide +kernel) ha (by decide) (by decide) he hpl
theorem d_dictD (hm : X.mg "dict" = none) (ha : PA X (e :: es) (tAP mg f)) (hg : Gl X "dict" := by rfl) (he : starEach (e :: es) X.env = (false, eval e X.env) :: starEach es X.env := by rfl) (hpl : (backTo pos (starEach es X.env)).any (·.1) = false := by rfl) : PE X (.Call (.Name "dict" p) (e :: es) [] pos) (tD mg (eBi gDictD f)) :=
  d_bt call_dictD ok_dictD back_D hg hm (by decide +kernel) ha (by decide) (by decide) he hpl
theorem d_d0 : PE X (.Dict [] [] pos) (tD mg lD0) := pe_weak pe_dnewK fun σ H Q ⟨E, N, c, env, st, d, st', R, q, k⟩ => by
  cases q
  exact fun p hp => k _ _ _ _ (Ex.laidN R.wd hp) (R.wd.laidN hp) (RD.laid R.wd hp rfl .nil)
end
/-! ### d[k], k in d -/
def oDx : D → D → Sto → Option D := fun x y _ => match x with
  | .dic ks vs => (match keyD y with
    | some k => getD ks vs k
    | none => none)
  | _ => none
def oInK (neg : Bool) : D → D → Sto → Option D := fun y x _ => match x with
  | .dic ks _ => (match keyD y with
    | some k => some (.bl (if neg then !decide (k ∈ ks) else decide (k ∈ ks)))
    | none => none)
  | _ => none
theorem ok_dx {mg : Glob} : OpOk mg (RE mg) (fun x y H Q => ∃ a v, x = .ref a ∧ DGet H a y (some v) ∧ Q v H) oDx := by
  intro N c H st u v x y d Q W p1 p2 e k
  unfold oDx at e
  split at e
  · rename_i ks vs
    split at e
    · rename_i kk hk
      obtain ⟨a, kvs, rfl, ha, rfl, r⟩ := p1.dic
      obtain ⟨w, hw, rw_⟩ := get_rel r e
      exact ⟨a, w, rfl, .inl ⟨kvs, kk, ha, p2.key hk, hw.symm⟩, k w N c H Ex.refl W rw_⟩
    · cases e
  · cases e
theorem ok_inK {mg : Glob} : OpOk mg (RE mg) (fun y x H Q => ∃ a o, x = .ref a ∧ DGet H a y o ∧ Q (.bl o.isSome) H) (oInK false) := by
  intro N c H st u v y x d Q W p1 p2 e k
  unfold oInK at e
  split at e
  · rename_i ks vs
    split at e
    · rename_i kk hk
      cases e
      obtain ⟨a, kvs, rfl, ha, rfl, r⟩ := p2.dic
      refine ⟨a, _, rfl, .inl ⟨kvs, kk, ha, p1.key hk, rfl⟩, ?_⟩
      rw [has_rel]
      exact k _ N c H Ex.refl W (.bl _)
    · cases e
  · cases e
theorem ok_ninK {mg : Glob} : OpOk mg (RE mg) (fun y x H Q => ∃ a o, x = .ref a ∧ DGet H a y o ∧ Q (.bl (!o.isSome)) H) (oInK true) := by
  intro N c H st u v y x d Q W p1 p2 e k
  unfold oInK at e
  split at e
  · rename_i ks vs
    split at e
    · rename_i kk hk
      cases e
      obtain ⟨a, kvs, rfl, ha, rfl, r⟩ := p2.dic
      refine ⟨a, _, rfl, .inl ⟨kvs, kk, ha, p1.key hk, rfl⟩, ?_⟩
      rw [has_rel]
      exact k _ N c H Ex.refl W (.bl _)
    · cases e
  · cases e
section
variable {mg : Glob} {X : Cx} {a b : Expr} {pos : Pos} {fa fb : SE}
theorem d_dx (hu : X.A.units + 1 < cLine) (ha : PE X a (tP mg fa)) (hb : PE X b (tP mg fb)) (hs : NoSl b := by exact fun _ _ => rfl) : PE X (.Subscript a b pos) (tE mg (eOp oDx fa fb)) := pe_weak (pe_dget hu ha hb hs) fun _ _ _ h => r_op ok_dx back_E h
theorem d_inK (hu : X.A.units + 1 < cLine) (ha : PE X a (tP mg fa)) (hb : PE X b (tP mg fb)) (h1 : behindInMarks .In b = false := by rfl) : PE X (.Compare a [.In] [b] pos) (tE mg (eOp (oInK false) fa fb)) := pe_weak (pe_cmp (pc_din hu ha hb) h1) fun _ _ _ h => r_op ok_inK back_E h
theorem d_ninK (hu : X.A.units + 1 < cLine) (ha : PE X a (tP mg fa)) (hb : PE X b (tP mg fb)) (h1 : behindInMarks .NotIn b = false := by rfl) : PE X (.Compare a [.NotIn] [b] pos) (tE mg (eOp (oInK true) fa fb)) := pe_weak (pe_cmp (pc_dnotin hu ha hb) h1) fun _ _ _ h => r_op ok_ninK back_E h
end
/-! ### sorted(d) -/
def strKeys : List Key → Option (List Str)
  | [] => some []
  | .inr z :: r => (match strKeys r with
    | some l => some (z :: l)
    | none => none)
  | _ => none
theorem strKeys_eq : ∀ {ks : List Key} {zs : List Str}, strKeys ks = some zs → ks = zs.map Sum.inr
  | [], _, e => by cases e; rfl
  | .inl _ :: _, _, e => by cases e
  | .inr z :: r, zs, e => by
    unfold strKeys at e
    split at e
    · rename_i l hl
      cases e
      rw [strKeys_eq hl]
      rfl
    · cases e
theorem strKeys_map : ∀ (zs : List Str), strKeys (zs.map Sum.inr) = some zs
  | [] => rfl
  | z :: r => by
    show (match strKeys (r.map Sum.inr) with | some l => some (z :: l) | none => none) = _
    rw [strKeys_map r]
def gSortD : List D → Sto → Option (List D) := fun ds _ => match ds with
  | [.dic ks _] => (match strKeys ks with
    | some zs => if zs.length < 64 then some ((sortS zs).map D.str) else none
    | none => none)
  | _ => none
def rSortD : List V → Hp → VK → Prop := fun xs H Q => ∃ (a : Addr) (kvs : List (Key × V)) (ks : List Str), xs = [.ref a] ∧ Rd H a (.dK kvs) ∧ kvs.map (·.1) = ks.map Sum.inr ∧ ks.length < 64 ∧ ∀ ys p, ys.Perm ks → sortedS ys = true → H p = none → Q (.ref p) (upd H p (.lst (ys.map V.str)))
theorem ok_sortD {mg : Glob} : BiOk mg (RN mg) rSortD gSortD := by
  intro N c H st us ds d Q W p q k
  unfold gSortD at q
  split at q
  · rename_i ks vs
    split at q
    · rename_i zs hz
      split at q
      · rename_i hl
        cases q
        obtain ⟨u, rfl, h⟩ := tl1 p
        obtain ⟨a, kvs, rfl, ha, hn, r⟩ := h.dic
        refine ⟨a, kvs, zs, rfl, ha, by rw [hn, strKeys_eq hz], hl, fun ys p hp hs hl => ?_⟩
        rw [sortS_uniq hp (sorted_pw ys hs)]
        exact k _ _ _ _ (Ex.laidN W hl) (W.laidN hl) (RN.laid W hl (RepL.strs _))
      · cases q
    · cases q
  · cases q
section
variable {mg : Glob} {X : Cx} {e : Expr} {es : List Expr} {p pos : Pos} {f : SA}
theorem d_sortD (hc : X.calm = true) (hm : X.mg "sorted" = none) (ha : PA X (e :: es) (tAP mg f)) (hg : Gl X "sorted" := by rfl) (he : starEach (e :: es) X.env = (false, eval e X.env) :: starEach es X.env := by rfl) (hpl : (backTo pos (starEach es X.env)).any (·.1) = false := by rfl) : PE X (.Call (.Name "sorted" p) (e :: es) [] pos) (tL mg (eBi gSortD f)) :=
  d_bi (call_sortedD hc) ok_sortD back_N hg hm (by decide +kernel) ha (by decide) (by decide) he hpl
end
end LW

/-! LwYc: comprehensions over the keys of a dict; a dict of the frame's own. -/
namespace LW
open PySem L2 PyProof.Rows
/-- a heap in which dicts are locked or unlocked -/
structure Lk (N : Prot) (H H' : Hp) : Prop where
  keep : ∀ a o, H a = some o → (∀ kvs, ¬ (o = .dK kvs ∨ ∃ b, o = .frz b (.dK kvs))) → H' a = some o
  dic : ∀ a kvs, Rd H a (.dK kvs) → Rd H' a (.dK kvs)
  ex : ∀ a, N a → H' a = H a
section
variable {mg : Glob} {N : Prot} {c : List Addr} {H H' : Hp} {st : Sto}
theorem Lk.some (l : Lk N H H') {a : Addr} (h : H a ≠ none) : H' a ≠ none := by
  cases e : H a with
  | none => exact absurd e h
  | some o =>
    by_cases q : ∃ kvs, o = .dK kvs ∨ ∃ b, o = .frz b (.dK kvs)
    · obtain ⟨kvs, q⟩ := q
      have : Rd H a (.dK kvs) := q.elim (fun z => .inl (by rw [e, z])) fun ⟨b, z⟩ => .inr ⟨b, by rw [e, z]⟩
      rcases l.dic a kvs this with z | ⟨b, z⟩ <;> rw [z] <;> exact fun y => nomatch y
    · rw [l.keep a o e fun kvs z => q ⟨kvs, z⟩]
      exact fun y => nomatch y
mutual
theorem Rep.lk {v : V} {d : D} (l : Lk N H H') : Rep mg N c H v d → Rep mg N c H' v d
  | .non => .non
  | .bl b => .bl b
  | .int i => .int i
  | .str x => .str x
  | .ty n => .ty n
  | .cls h => .cls h
  | .tup h n r => .tup (l.keep _ _ h fun kvs z => z.elim (fun y => nomatch y) fun ⟨_, y⟩ => nomatch y) n (RepL.lk l r)
  | .lst h n r => .lst (l.keep _ _ h fun kvs z => z.elim (fun y => nomatch y) fun ⟨_, y⟩ => nomatch y) n (RepL.lk l r)
  | .fro h n r => .fro (l.keep _ _ h fun kvs z => z.elim (fun y => nomatch y) fun ⟨_, y⟩ => nomatch y) n (RepL.lk l r)
  | .kro h => .kro h
  | .cell h => .cell h
  | .obj hc h n hn r => .obj hc (l.keep _ _ h fun kvs z => z.elim (fun y => nomatch y) fun ⟨_, y⟩ => nomatch y) n hn (RepL.lk l r)
  | .dic h n hn r => (l.dic _ _ (.inl h)).elim (fun z => .dic z n hn (RepL.lk l r)) fun ⟨_, z⟩ => .dfz z n hn (RepL.lk l r)
  | .dfz h n hn r => (l.dic _ _ (.inr ⟨_, h⟩)).elim (fun z => .dic z n hn (RepL.lk l r)) fun ⟨_, z⟩ => .dfz z n hn (RepL.lk l r)
  | .dit h n hn r => .dit (l.keep _ _ h fun kvs z => z.elim (fun y => nomatch y) fun ⟨_, y⟩ => nomatch y) n hn (RepL.lk l r)
theorem RepL.lk {vs : List V} {ds : List D} (l : Lk N H H') : RepL mg N c H vs ds → RepL mg N c H' vs ds
  | .nil => .nil
  | .cons h r => .cons (Rep.lk l h) (RepL.lk l r)
end
theorem Wd.lk (l : Lk N H H') (W : Wd mg N c H st) : Wd mg N c H' st :=
  ⟨W.len, fun k a xs h1 h2 => let ⟨vs, e, r⟩ := W.sto k a xs h1 h2; ⟨vs, by rw [l.ex a (W.cn a (List.mem_of_getElem? h1))]; exact e, r.lk l⟩, W.cn, W.nd, fun a h => l.some (W.trk a h)⟩
theorem lk_lock {a : Addr} {od : Obj} {kvs : List (Key × V)} (h : H a = some (.dK kvs)) (n : ¬ N a) : Lk N H (upd H a (.frz od (.dK kvs))) where
  keep := fun b o e q => by
    by_cases z : b = a
    · subst z
      rw [h] at e
      cases e
      exact absurd (.inl rfl) (q kvs)
    · rw [upd_ne z]; exact e
  dic := fun b ks q => by
    by_cases z : b = a
    · subst z
      rcases q with q | ⟨o, q⟩
      · rw [h] at q; cases q; exact .inr ⟨od, upd_same⟩
      · rw [h] at q; cases q
    · unfold Rd
      rw [upd_ne z]; exact q
  ex := fun b z => upd_ne fun y => n (y ▸ z)
theorem lk_unlock {a : Addr} {od : Obj} {kvs : List (Key × V)} (h : H a = some (.frz od (.dK kvs))) (n : ¬ N a) : Lk N H (upd H a (.dK kvs)) where
  keep := fun b o e q => by
    by_cases z : b = a
    · subst z
      rw [h] at e
      cases e
      exact absurd (.inr ⟨_, rfl⟩) (q kvs)
    · rw [upd_ne z]; exact e
  dic := fun b ks q => by
    by_cases z : b = a
    · subst z
      rcases q with q | ⟨o, q⟩
      · rw [h] at q; cases q
      · rw [h] at q; cases q; exact .inl upd_same
    · unfold Rd
      rw [upd_ne z]; exact q
  ex := fun b z => upd_ne fun y => n (y ▸ z)
/-- the frame's relation in the locked heap -/
theorem Rel.lock {E : En} {env : Env} {σ : L2.St} {a : Addr} {od : Obj} {kvs : List (Key × V)} (R : Rel mg E N c env st σ H) (h : H a = some (.dK kvs)) (n : ¬ N a) : ∃ E', Rel mg E' N c env st σ (upd H a (.frz od (.dK kvs))) := by
  have l : Lk N H (upd H a (.frz od (.dK kvs))) := lk_lock h n
  have nn : ∀ b, (if b = a then (E.H0 a).map (fun _ => HO.frz od (.dK kvs)) else E.H0 b) = none ↔ E.H0 b = none := fun b => by
    by_cases z : b = a
    · subst z
      rw [if_pos rfl, Option.map_eq_none_iff]
    · rw [if_neg z]
  refine ⟨⟨fun b => if b = a then (E.H0 a).map (fun _ => HO.frz od (.dK kvs)) else E.H0 b, E.N0, E.c0, E.self⟩, ⟨R.len, fun i s e => ?_, fun i s b e ho es => ?_, R.inj, R.wd.lk l, R.n0, fun b z q => R.t0 b z ((nn b).mp q), fun b o e nc => ?_, R.pre, fun b z => (R.newc b z).imp id fun q => (nn b).mpr q, R.slf⟩⟩
  · have q := R.sl i s e
    have own : ∀ b, s.isOwn = true → σ[i]?.join = some (.ref b) → b ≠ a := fun b ho es z => n (z ▸ (R.own i s b e ho (join_some es)).1)
    cases s with
    | un => trivial
    | val d => obtain ⟨v, ev, rv⟩ := q; exact ⟨v, ev, rv.lk l⟩
    | own ys => obtain ⟨b, us, ev, hb, rv⟩ := q; exact ⟨b, us, ev, by rw [upd_ne (own b rfl ev)]; exact hb, rv.lk l⟩
    | ownI cn ns ds => obtain ⟨b, C, dx, fs, ev, hc, hb, hn, rv⟩ := q; exact ⟨b, C, dx, fs, ev, hc, by rw [upd_ne (own b rfl ev)]; exact hb, hn, rv.lk l⟩
    | ownD ks ds => obtain ⟨b, kvs', ev, hb, hn, rv⟩ := q; exact ⟨b, kvs', ev, by rw [upd_ne (own b rfl ev)]; exact hb, hn, rv.lk l⟩
  · obtain ⟨z1, z2, z3⟩ := R.own i s b e ho es
    exact ⟨z1, z2, (nn b).mpr z3⟩
  · by_cases z : b = a
    · subst z
      have e : (if b = b then (E.H0 b).map (fun _ => HO.frz od (.dK kvs)) else E.H0 b) = some o := e
      rw [if_pos rfl] at e
      obtain ⟨_, _, e⟩ := Option.map_eq_some_iff.mp e
      rw [← e]
      exact upd_same
    · have e : (if b = a then (E.H0 a).map (fun _ => HO.frz od (.dK kvs)) else E.H0 b) = some o := e
      rw [if_neg z] at e
      rw [upd_ne z]
      exact R.base b o e nc
end
/-! ### walks over the keys -/
def iKy (i : Nat) : Fx Src := fun env st => match env[i]? with
  | some (.val (.dic ks _)) => some ((ks.map keyV, noChk), st)
  | _ => none
def tIK (mg : Glob) (i : Nat) : TI := fun σ H R => tI mg (iKy i) σ H R ∧ ∃ a o kvs, σ[i]? = some (some (.ref a)) ∧ H a = some (.frz o (.dK kvs))
theorem rep_keys {mg : Glob} {N : Prot} {c : List Addr} {H : Hp} {k : Key} : Rep mg N c H (kV k) (keyV k) := Rep.key
theorem il_keys {mg : Glob} {N : Prot} {c : List Addr} {H : Hp} {a : Addr} {o : Obj} {kvs : List (Key × V)} (ha : H a = some (.frz o (.dK kvs))) (n : ¬ N a) : ItL mg (Itk a o kvs) ((kvs.map (·.1)).map keyV, noChk) N c H where
  stop := fun N' c' H' st x W _ => by
    refine ⟨x.keep a _ ha n, ?_⟩
    show kvs.length ≤ ((kvs.map (·.1)).map keyV).length
    rw [List.length_map, List.length_map]
    exact Nat.le_refl _
  go := fun i N' c' H' st hi x W _ => by
    refine ⟨x.keep a _ ha n, ?_⟩
    have : i < ((kvs.map (·.1)).map keyV).length := hi
    rwa [List.length_map, List.length_map] at this
  yld := fun i N' c' H' st v H2 hi x W _ y => by
    obtain ⟨rfl, k, w, hk, rfl⟩ := y
    refine ⟨keyV k, ?_, Ex.refl, W, rep_keys⟩
    show ((kvs.map (·.1)).map keyV)[i]? = _
    rw [List.getElem?_map, List.getElem?_map, hk]
    rfl
section
variable {mg : Glob} {X : Cx} {tg : Expr} {pos : Pos}
theorem i_keys (i : Nat) {x : Str} {p : Pos} (hN : X.N[i]? = some x := by rfl) (hv : Vis X.env.scope x := by first | exact Or.inl rfl | exact Or.inr (Or.inl rfl) | exact Or.inr (Or.inr rfl)) (hd : (x == ("__debug__" : Str)) = false := by decide)
    (hcd : (x == ("__classdict__" : Str)) = false := by decide) : PI X tg (.Name x p) (tIK mg i) := pi_weak (pi_keys (pe_var hN hv hd hcd)) fun σ H R ⟨⟨E, N, c, env, st, xs, st', Rl, q, k⟩, a, o, kvs, hs, ha⟩ => by
  unfold iKy at q
  split at q
  · rename_i ks ds he
    cases q
    obtain ⟨v, ev, rv⟩ := Rl.sl i _ he
    have ev := join_some ev
    rw [hs] at ev
    cases ev
    refine ⟨.ref a, hs, a, o, rfl, .inl ⟨kvs, ha, ?_⟩⟩
    cases rv with
    | dic h _ _ _ => rw [ha] at h; cases h
    | dfz h n hn r =>
      rw [ha] at h
      cases h
      subst hn
      exact k _ N c H Ex.refl Rl.wd (il_keys ha n)
  · cases q
theorem pe_lockOr {e : Expr} {t : TE} (h : PE X e t) : PE X e (fun σ H Q => tLockE t σ H Q ∨ t σ H Q) := ⟨fun pins s σ H Q I q => q.elim (fun z => (pe_lock h).run pins s σ H Q I z) fun z => h.run pins s σ H Q I z⟩
variable {eltE : Expr} {ifs : List Expr} {scope : Scope} {own : List (Str × Nat)} {asg : D → Env → Option Env} {cond : SB} {elt : SE} {g : TG} {is : List Nat}
theorem r_lcK (hg : GOk mg g asg is) (hv : ∀ i ∈ is, i ∈ own.map (·.2)) {i : Nat} {σ : L2.St} {H : Hp} {Q : VK} (h : tL mg (lComp (iKy i) asg cond elt (own.map (·.2))) σ H Q) :
    tLockE (tLc (tIK mg i) g (tT mg cond) (tE mg elt) (own.map (·.2))) σ H Q ∨ tLc (tIK mg i) g (tT mg cond) (tE mg elt) (own.map (·.2)) σ H Q := by
  obtain ⟨E, N, c, env, st, d, st', R, q, k⟩ := h
  have q0 := q
  unfold lComp iKy at q
  split at q
  · cases q
  · rename_i src s1 q1
    split at q1
    · rename_i ks ds he
      obtain ⟨v, ev, rv⟩ := R.sl i _ he
      have ev := join_some ev
      cases rv with
      | dfz ha n hn r => exact .inr ⟨r_lc (fi := iKy i) hg hv ⟨E, N, c, env, st, d, st', R, q0, k⟩, _, _, _, ev, ha⟩
      | dic ha n hn r =>
        rename_i a kvs _
        refine .inl ⟨a, .dK kvs, ha, trivial, fun od => ⟨?_, a, od, kvs, ev, upd_same⟩⟩
        obtain ⟨E', R'⟩ := R.lock (od := od) ha n
        show tLc (tI mg (iKy i)) g (tT mg cond) (tE mg elt) (own.map (·.2)) σ _ (fun v H' => H' a = some (.frz od (.dK kvs)) ∧ Q v (upd H' a (.dK kvs)))
        refine r_lc (fi := iKy i) hg hv ⟨E', N, c, env, st, d, st', R', q0, fun v N' c' H' x W' rn => ?_⟩
        have nc : a ∉ c := fun z => n (R.wd.cn a z)
        have hf : H' a = some (.frz od (.dK kvs)) := x.keep a _ upd_same nc
        have n' : ¬ N' a := fun z => (x.new a z).elim n fun e => by rw [upd_same] at e; cases e
        have l : Lk N' H' (upd H' a (.dK kvs)) := lk_unlock hf n'
        refine ⟨hf, k v N' c' (upd H' a (.dK kvs)) ⟨fun b o e nb => ?_, fun b z => ?_, x.mono, x.pre, fun b z => ?_⟩ (W'.lk l) ?_⟩
        · by_cases z : b = a
          · subst z
            rw [ha] at e
            cases e
            exact upd_same
          · rw [upd_ne z]
            exact x.keep b o (by rw [upd_ne z]; exact e) nb
        · rcases x.new b z with y | y
          · exact .inl y
          · by_cases w : b = a
            · subst w; rw [upd_same] at y; cases y
            · rw [upd_ne w] at y; exact .inr y
        · rcases x.newc b z with y | y
          · exact .inl y
          · by_cases w : b = a
            · subst w; rw [upd_same] at y; cases y
            · rw [upd_ne w] at y; exact .inr y
        · obtain ⟨p, vs, rfl, hp, np, nc', hv', rr⟩ := rn
          have hpa : p ≠ a := fun z => by rw [z, hf] at hv'; cases hv'
          exact ⟨p, vs, rfl, by rw [upd_ne hpa] at hp; exact hp, np, nc', by rw [upd_ne hpa]; exact hv', rr.lk l⟩
    · cases q1
/-- [elt for key in d if ..] -/
theorem d_lcK (i : Nat) {x : Str} {p : Pos} (hc : X.calm = true) (hN : X.N.Nodup) (ok : BlkOk X.N X.env.scope scope own)
    (hgg : ∀ (s : Shared) (H : Hp) (C : Addr) (cl : List (Str × Addr)) (fp : List Addr), PG (X.blk s H scope (compEnvC scope cl C X.env) fp) tg g) (hg : GOk mg g asg is) (hv : ∀ i ∈ is, i ∈ own.map (·.2))
    (ht : ∀ (s : Shared) (H : Hp) (C : Addr) (cl : List (Str × Addr)) (fp : List Addr), PTs (X.blk s H scope (compEnvC scope cl C X.env) fp) ifs (tT mg cond))
    (he : ∀ (s : Shared) (H : Hp) (C : Addr) (cl : List (Str × Addr)) (fp : List Addr), PE (X.blk s H scope (compEnvC scope cl C X.env) fp) eltE (tE mg elt))
    (hx : X.N[i]? = some x := by rfl) (hvs : Vis X.env.scope x := by first | exact Or.inl rfl | exact Or.inr (Or.inl rfl) | exact Or.inr (Or.inr rfl)) (hd : (x == ("__debug__" : Str)) = false := by decide)
    (hcd : (x == ("__classdict__" : Str)) = false := by decide) (hs : ∀ y, foldedSetIterable (.Name x p) X.env y = pure y := by intro _; rfl) :
    PE X (.ListComp eltE [⟨tg, .Name x p, ifs, 0⟩] scope pos) (tL mg (lComp (iKy i) asg cond elt (own.map (·.2)))) :=
  pe_weak (pe_lockOr (pe_lc hc hN (i_keys i hx hvs hd hcd) ok hgg ht he hs)) fun _ _ _ h => r_lcK hg hv h
end
end LW

/-! LwYd: != of lists of equal things, dicts among them. -/
namespace PySem.SeqAt
open AutoSeq1 (wpAny_loadPart')
open MeetsSeq MeetsSeq2 MeetsSeq3 SeqRoads2
section
variable {P : Program} {w : World}
abbrev lw_obj (vs : Array Value) (n : Nat) (dd : Option Addr) (sl : Array (Option Value)) : Obj := { cls := .type "list", dict := dd, data := .seq vs n, slots := sl }
/-- the loop of != over two lists of equal items, from place i on -/
theorem lw_ne_loop (l b : Addr) (us vs : Array Value) (n m : Nat) (d1 d2 : Option Addr) (s1 s2 : Array (Option Value)) (hz : us.size = vs.size) (k : Nat) :
    ∀ i : Nat, us.size - i = k → MeetsIn P w (Builtin.«list.__eq__.loop» ⟨[.ref l, .ref b, rawInt i, rawInt 3], []⟩) (fun A R s => s.heap.get? l = some (lw_obj us n d1 s1) ∧ s.heap.get? b = some (lw_obj vs m d2 s2) ∧
      (∀ j (h1 : j < us.size) (h2 : j < vs.size), EqP P w A.in1 s us[j] vs[j] true) ∧ R (.ok (.ret (.bool false))) s) := by
  induction k with
  | zero =>
    intro i hk A R s ⟨hl, hb, he, h⟩
    obtain ⟨hp, g, d, tk, os⟩ := s
    wp_walk using wpAny_loadPart' hl, wpAny_loadPart' hb
    rw [show us[((i : Nat) : Int).toNat]? = none from by simp; omega, show vs[((i : Nat) : Int).toNat]? = none from by simp; omega]
    wp_walk using wpAny_loadPart' hl, wpAny_loadPart' hb
    show R (.ok (.ret (.bool (us.size != vs.size)))) _
    rw [hz, show (vs.size != vs.size) = false by simp]
    exact h
  | succ k ih =>
    intro i hk A R s ⟨hl, hb, he, h⟩
    obtain ⟨hp, g, d, tk, os⟩ := s
    wp_walk using wpAny_loadPart' hl, wpAny_loadPart' hb
    have q1 : i < us.size := by omega
    have q2 : i < vs.size := by omega
    rw [show us[((i : Nat) : Int).toNat]? = some us[i] from by simp [q1], show vs[((i : Nat) : Int).toNat]? = some vs[i] from by simp [q2]]
    refine wpAny_bind (he i q1 q2 _ _ ?_)
    wp_walk
    rw [show ((i : Int) + 1) = ((i + 1 : Nat) : Int) from by omega]
    exact ⟨plainId_quiet plain_eq_loop _, codeAny_builtin entry_eq_loop (by
      rw [Around.under_plainId plain_eq_loop]
      exact ih (i + 1) (by omega) A R _ ⟨hl, hb, he, h⟩)⟩
theorem lw_ne {A : Around} {s : Shared} {l b : Addr} {us vs : Array Value} (hl : s.heap.IsList l us) (hb : s.heap.IsList b vs) (hz : us.size = vs.size) (hu : A.units < cLine)
    (he : ∀ j (h1 : j < us.size) (h2 : j < vs.size), EqP P w A.in1 s us[j] vs[j] true) (E Q : Value → Shared → Prop) (h : Q (.bool false) s) : wpAny (model P w) A (richCompare .NotEq (.ref l) (.ref b)) Q E s := by
  obtain ⟨⟨c1, d1, da1, s1⟩, o1, e1, n, f1⟩ := id hl
  obtain ⟨⟨c2, d2, da2, s2⟩, o2, e2, m, f2⟩ := id hb
  simp only at e1 f1 e2 f2
  subst e1 f1 e2 f2
  have meets : MeetsIn P w (Builtin.«list.__ne__» ⟨[.ref l, .ref b], []⟩) (fun A R s => s.heap.get? l = some (lw_obj us n d1 s1) ∧ s.heap.get? b = some (lw_obj vs m d2 s2) ∧
      (∀ j (h1 : j < us.size) (h2 : j < vs.size), EqP P w A.in1 s us[j] vs[j] true) ∧ R (.ok (.ret (.bool false))) s) := by
    intro A R s ⟨hl, hb, he, h⟩
    obtain ⟨hp, g, d, tk, os⟩ := s
    have sub := AutoSeq1.sub_list_list
    have hne : ¬ (us.size != vs.size) = true := by simp [hz]
    wp_walk using wpAny_loadPart' hl, wpAny_loadPart' hb
    exact ⟨plainId_quiet plain_eq_loop _, codeAny_builtin entry_eq_loop (by
      rw [Around.under_plainId plain_eq_loop]
      exact lw_ne_loop l b us vs n m d1 d2 s1 s2 hz _ 0 rfl A R _ ⟨hl, hb, he, h⟩)⟩
  exact wpAny_richCompare_same_room (op := .NotEq) ⟨_, o1, rfl⟩ ⟨_, o2, rfl⟩ F.slot_list_ne (call_meetsIn F.slot_list_ne ⟨_, o1, rfl⟩ F.entry_list_ne (F.args_list_ne_2 _ _) meets
    ⟨o1, o2, he, show Value.bool false ≠ Value.notImplemented ∧ Q (.bool false) s from ⟨(fun x => nomatch x), h⟩⟩) hu
end
end PySem.SeqAt
namespace LW
open PySem L2 PyProof.Rows
/-- two things that are equal, of nesting below n: flat ones, lists, dicts (locked ones too) -/
def EqX (K : PySem.W.Frag) (H : Hp) : Nat → V → V → Prop
  | 0 => fun _ _ => False
  | n + 1 => fun x y => (x = y ∧ flatB x = true) ∨ (∃ a b xs ys, x = .ref a ∧ y = .ref b ∧ SqL K H a xs ∧ SqL K H b ys ∧ Paired (EqX K H n) xs ys) ∨
    ∃ a b ks ls, x = .ref a ∧ y = .ref b ∧ Rd H a (.dK ks) ∧ Rd H b (.dK ls) ∧ ks.length = ls.length ∧ ∀ p ∈ ks, ∃ u, valV ls p.1 = some u ∧ EqX K H n p.2 u
section
variable {X : Cx} {pins : List (Addr × Obj)} {σ : L2.St} {H : Hp} {s : Shared}
theorem eqX_run (I : Inv X pins σ H s) : ∀ (n : Nat) (A : Around), A.units + n < cLine → ∀ (x y : V) (v u : Value), EqX X.K H n x y → RelV x v → RelV y u → SeqAt.EqP X.prog X.w A s v u true
  | 0, _, _, _, _, _, _, h, _, _ => (show False from h).elim
  | n + 1, A, hu, x, y, v, u, h, rx, ry => by
    have ih := eqX_run I n A.in1 (by show A.units + 1 + n < cLine; omega)
    rcases h with ⟨rfl, f⟩ | ⟨a, b, xs, ys, rfl, rfl, ha, hb, hp⟩ | ⟨a, b, ks, ls, rfl, rfl, ha, hb, hl, hp⟩
    · exact (eqAt_same rx ry f).eqP
    · cases (show v = Value.ref a from rx)
      cases (show u = Value.ref b from ry)
      by_cases e : a = b
      · subst e
        exact (SeqAt.EqAt.same _).eqP
      · refine SeqAt.eqP_refs e fun E Q q => ?_
        obtain ⟨us, r1, p1, _⟩ := I.list ha
        obtain ⟨ws, r2, p2, _⟩ := I.list hb
        refine SeqAt.rcP_lists (e := fun _ => true) p1.isList p2.isList (by rw [List.size_toArray, List.size_toArray, ← r1.length, ← r2.length]; exact Paired.length hp) (by omega) (fun j h1 h2 => ?_) E Q ?_
        · have k := items_run ih hp r1 r2 j (by simpa using h1) (by simpa using h2)
          simpa using k
        · rw [show ((List.range us.toArray.size).all fun _ => true) = true from List.all_eq_true.mpr fun _ _ => rfl]
          exact q
    · cases (show v = Value.ref a from rx)
      cases (show u = Value.ref b from ry)
      by_cases e : a = b
      · subst e
        exact (SeqAt.EqAt.same _).eqP
      · refine SeqAt.eqP_refs e fun E Q q => ?_
        obtain ⟨_, ya, va, ra, da⟩ := (show ObjOk X.prog X.w H s.heap a (.dK ks) from ha.ok I.hok)
        obtain ⟨_, yb, vb, rb, db⟩ := (show ObjOk X.prog X.w H s.heap b (.dK ls) from hb.ok I.hok)
        refine PySem.W.rcP_dicts (knd := mixKind X.prog X.w) (r := true) ya yb da db (by omega) (fun _ => hits_run ih rb ra hp) E Q ?_
        rw [show (va.length == vb.length && true) = true from by rw [show va.length = vb.length by rw [← ra.length, ← rb.length]; exact hl]; simp]
        exact q
end
def rNeV (K : PySem.W.Frag) : R2 := fun x y H Q => ∃ n a b xs ys, n ≤ 60 ∧ x = .ref a ∧ y = .ref b ∧ SqL K H a xs ∧ SqL K H b ys ∧ Paired (EqX K H n) xs ys ∧ Q (.bl false) H
theorem op_neV {X : Cx} (hu : X.A.units + 64 < cLine) : OpR X (compareOp .NotEq) (rNeV X.K) := by
  intro pins s σ H x y v u Q I rx ry h
  obtain ⟨n, a, b, xs, ys, hn, rfl, rfl, ha, hb, hp, q⟩ := h
  cases (show v = Value.ref a from rx)
  cases (show u = Value.ref b from ry)
  obtain ⟨us, r1, p1, _⟩ := I.list ha
  obtain ⟨ws, r2, p2, _⟩ := I.list hb
  have hz : us.toArray.size = ws.toArray.size := by
    rw [List.size_toArray, List.size_toArray, ← r1.length, ← r2.length]
    exact Paired.length hp
  refine SeqAt.lw_ne p1.isList p2.isList hz (by omega) (fun j h1 h2 => ?_) _ _ ⟨.bl false, H, I, rfl, q⟩
  have k := items_run (eqX_run I n X.A.in1 (by show X.A.units + 1 + n < cLine; omega)) hp r1 r2 j (by simpa using h1) (by simpa using h2)
  simpa using k
/-! ### equal data -/
def all2 {α : Type} (f : α → α → Bool) : List α → List α → Bool
  | [], [] => true
  | x :: xs, y :: ys => f x y && all2 f xs ys
  | _, _ => false
def eqX : Nat → D → D → Bool
  | 0 => fun _ _ => false
  | n + 1 => fun x y => match x, y with
    | .int a, .int b => decide (a = b)
    | .str a, .str b => decide (a = b)
    | .bl a, .bl b => decide (a = b)
    | .non, .non => true
    | .lst xs, .lst ys => all2 (eqX n) xs ys
    | .dic ks vs, .dic ls us => decide (ks = ls) && decide (ks.Pairwise (· ≠ ·)) && all2 (eqX n) vs us
    | _, _ => false
section
variable {mg : Glob} {N : Prot} {c : List Addr} {H : Hp} {st : Sto}
theorem all2_rel {n : Nat} (ih : ∀ (x y : D) (u v : V), eqX n x y = true → Rep mg N c H u x → Rep mg N c H v y → EqX mg.K H n u v) : ∀ {xs ys : List D} {us vs : List V}, all2 (eqX n) xs ys = true → RepL mg N c H us xs → RepL mg N c H vs ys → Paired (EqX mg.K H n) us vs
  | [], [], _, _, _, .nil, .nil => .nil
  | x :: xs, y :: ys, _, _, e, .cons h t, .cons h' t' => by
    unfold all2 at e
    rw [Bool.and_eq_true] at e
    exact .cons (ih _ _ _ _ e.1 h h') (all2_rel ih e.2 t t')
  | [], _ :: _, _, _, e, _, _ => by cases e
  | _ :: _, [], _, _, e, _, _ => by cases e
theorem pair_get {F : V → V → Prop} : ∀ {ks ls : List (Key × V)}, ks.map (·.1) = ls.map (·.1) → (ks.map (·.1)).Pairwise (· ≠ ·) → Paired F (ks.map (·.2)) (ls.map (·.2)) → ∀ p ∈ ks, ∃ u, valV ls p.1 = some u ∧ F p.2 u
  | [], _, _, _, _, p, hp => by cases hp
  | k :: ks, [], e, _, _, _, _ => by cases e
  | k :: ks, l :: ls, e, hn, .cons h t, p, hp => by
    have e1 : k.1 = l.1 := by injection e
    have e2 : ks.map (·.1) = ls.map (·.1) := by injection e
    obtain ⟨n1, n2⟩ := List.pairwise_cons.mp hn
    rcases List.mem_cons.mp hp with rfl | hp
    · exact ⟨l.2, valV_pos e1.symm, h⟩
    · obtain ⟨u, hu, f⟩ := pair_get e2 n2 t p hp
      refine ⟨u, ?_, f⟩
      rw [valV_neg fun z => n1 p.1 (List.mem_map.mpr ⟨p, hp, rfl⟩) (e1.trans z)]
      exact hu
theorem eqX_rel : ∀ (n : Nat) (x y : D) (u v : V), eqX n x y = true → Rep mg N c H u x → Rep mg N c H v y → EqX mg.K H n u v
  | 0, _, _, _, _, e, _, _ => by cases e
  | n + 1, x, y, u, v, e, hx, hy => by
    unfold eqX at e
    split at e
    · cases hx; cases hy; exact .inl ⟨by rw [of_decide_eq_true e], rfl⟩
    · cases hx; cases hy; exact .inl ⟨by rw [of_decide_eq_true e], rfl⟩
    · cases hx; cases hy; exact .inl ⟨by rw [of_decide_eq_true e], rfl⟩
    · cases hx; cases hy; exact .inl ⟨rfl, rfl⟩
    · cases hx with
      | lst ha _ r => cases hy with
        | lst hb _ r' => exact .inr (.inl ⟨_, _, _, _, rfl, rfl, SqL.of ha, SqL.of hb, all2_rel (eqX_rel n) e r r'⟩)
    · rw [Bool.and_eq_true, Bool.and_eq_true] at e
      obtain ⟨⟨e1, e2⟩, e3⟩ := e
      have e1 := of_decide_eq_true e1
      have e2 := of_decide_eq_true e2
      obtain ⟨a, kvs, rfl, ha, rfl, r⟩ := RepT.dic (.inl hx)
      obtain ⟨b, lvs, rfl, hb, rfl, r'⟩ := RepT.dic (.inl hy)
      have pr := all2_rel (eqX_rel n) e3 r r'
      refine .inr (.inr ⟨a, b, kvs, lvs, rfl, rfl, ha, hb, ?_, pair_get e1 e2 pr⟩)
      have := congrArg List.length e1
      rwa [List.length_map, List.length_map] at this
    · cases e
end
def oNeX : D → D → Sto → Option D := fun x y st => match lstR st x, lstR st y with
  | some xs, some ys => if all2 (eqX 40) xs ys = true then some (.bl false) else none
  | _, _ => none
theorem ok_neX {mg : Glob} : OpOk mg (RE mg) (rNeV mg.K) oNeX := by
  intro N c H st u v x y d Q W p1 p2 e k
  unfold oNeX at e
  split at e
  · rename_i xs ys hx hy
    split at e
    · rename_i h
      cases e
      obtain ⟨a, us, rfl, ha, r⟩ := RepT.read W p1 hx
      obtain ⟨b, vs, rfl, hb, r'⟩ := RepT.read W p2 hy
      exact ⟨40, a, b, us, vs, by decide, rfl, rfl, ha, hb, all2_rel (eqX_rel 40) h r r', k _ N c H Ex.refl W (.bl _)⟩
    · cases e
  · cases e
section
variable {mg : Glob} {X : Cx} {a b : Expr} {pos : Pos} {fa fb : SE}
theorem d_neX (hu : X.A.units + 64 < cLine) (ha : PE X a (tP mg fa)) (hb : PE X b (tP mg fb)) (hK : X.K = mg.K := by rfl) : PE X (.Compare a [.NotEq] [b] pos) (tE mg (eOp oNeX fa fb)) := d_cmp (hK ▸ op_neV hu) ok_neX back_E ha hb (nomark _)
end
/-! ### a dict of the frame's own -/
def sOwnD (i : Nat) (f : Fx DK) : SS := fun env st => match f env st with
  | some (d, s1) => some (.nx (env.set i (.ownD d.1 d.2)), s1)
  | none => none
def sPutK (i : Nat) (fk fe : SE) : SS := fun env st => match fe env st with
  | some (d, s1) => (match fk env s1 with
    | some (y, s2) => (match env[i]? with
      | some (.ownD ks vs) => (match keyD y with
        | some k => if ks.length < 1000000 then some (.nx (env.set i (.ownD (putKD (ks, vs) k d).1 (putKD (ks, vs) k d).2)), s2) else none
        | none => none)
      | _ => none)
    | none => none)
  | none => none
def eGetO (i : Nat) (fk : SE) : SE := fun env st => match env[i]? with
  | some (.ownD ks vs) => (match fk env st with
    | some (y, s1) => (match keyD y with
      | some k => (match getD ks vs k with
        | some d => some (d, s1)
        | none => none)
      | none => none)
    | none => none)
  | _ => none
section
variable {mg : Glob} {X : Cx} {e ej : Expr} {pos tpos : Pos} {fe fj : SE} {fl : Fx DK}
theorem s_ownD {i : Nat} {x : Str} {pos' : Pos} (hN : X.N.Nodup) (he : PE X e (tD mg fl)) (hi : X.N[i]? = some x := by rfl) (hx : Loc X.env.scope x := by first | exact Or.inl rfl | exact Or.inr rfl) (hs : swapsWith e (some (.Name x pos')) pos.line X.env = pure false := by rfl) (hf : X.fn x = true ∨ X.env.scope.names.lookup x = some .local := by first | exact .inl rfl | exact .inr rfl) :
    PS X (.Assign [.Name x pos'] e pos) (tS mg (sOwnD i fl)) := ps_weak (ps_set hN hi hx he hs hf) fun De σ H h => by
  obtain ⟨E, N, c, env, st, o, st', R, q, p⟩ := tS_def.mp h
  unfold sOwnD at q
  split at q
  · rename_i xs s1 q1
    cases q
    refine ⟨E, N, c, env, st, _, _, R, q1, fun v N' c' H' x W r => ?_⟩
    obtain ⟨a, kvs, rfl, hn, na, nc, ha, hm, rr⟩ := r
    exact p N' c' _ H' (x.sx R.wd W) ((R.ex x W).setOwnD ha na nc (R.fresh0 hn) hm rr (R.notOwn hn))
  · cases q
theorem d_getO (i : Nat) {x : Str} {p1 : Pos} (hu : X.A.units + 1 < cLine) (hj : PE X ej (tP mg fj)) (hN : X.N[i]? = some x := by rfl) (hv : Vis X.env.scope x := by first | exact Or.inl rfl | exact Or.inr (Or.inl rfl) | exact Or.inr (Or.inr rfl)) (hd : (x == ("__debug__" : Str)) = false := by decide)
    (hcd : (x == ("__classdict__" : Str)) = false := by decide) (hs : NoSl ej := by exact fun _ _ => rfl) : PE X (.Subscript (.Name x p1) ej pos) (tE mg (eGetO i fj)) := pe_weak (pe_dget hu (pe_var hN hv hd hcd) hj hs) fun σ H Q ⟨E, N, c, env, st, d, st', R, q, k⟩ => by
  unfold eGetO at q
  split at q
  · rename_i ks vs hx
    split at q
    · rename_i y s1 q1
      split at q
      · rename_i kk hk
        split at q
        · rename_i d0 hg
          cases q
          obtain ⟨a, kvs, ea, ha, rfl, rr⟩ := R.sl i _ hx
          have ea := join_some ea
          refine ⟨.ref a, ea, E, N, c, env, st, y, _, R, q1, fun w N1 c1 H1 x1 W1 r1 => ?_⟩
          have R1 := R.ex x1 W1
          obtain ⟨b, lvs, eb, hb, hm, r2⟩ := R1.sl i _ hx
          rw [ea] at eb
          cases eb
          rw [← hm] at hg
          obtain ⟨z, hz, rz⟩ := get_rel r2 hg
          exact ⟨a, z, rfl, .inl ⟨lvs, kk, .inl hb, r1.key hk, hz.symm⟩, k z N1 c1 H1 x1 W1 rz⟩
        · cases q
      · cases q
    · cases q
  · cases q
theorem s_putK {i : Nat} {x : Str} {p1 : Pos} (hu : X.A.units + 1 < cLine) (he : PE X e (tE mg fe)) (hj : PE X ej (tP mg fj)) (hN : X.N[i]? = some x := by rfl) (hv : Vis X.env.scope x := by first | exact Or.inl rfl | exact Or.inr (Or.inl rfl) | exact Or.inr (Or.inr rfl)) (hd : (x == ("__debug__" : Str)) = false := by decide)
    (hcd : (x == ("__classdict__" : Str)) = false := by decide) (hs : swapsWith e (some (.Subscript (.Name x p1) ej tpos)) pos.line X.env = pure false := by rfl) :
    PS X (.Assign [.Subscript (.Name x p1) ej tpos] e pos) (tS mg (sPutK i fj fe)) :=
  ps_weak (ps_dput hu (pe_var hN hv hd hcd) hj he hs) fun De σ H h => by
    obtain ⟨E, N, c, env, st, o, st', R, q, p⟩ := tS_def.mp h
    unfold sPutK at q
    split at q
    · rename_i d s1 q1
      split at q
      · rename_i y s2 q2
        split at q
        · rename_i ks vs hx
          split at q
          · rename_i kk hk
            split at q
            · rename_i hl
              cases q
              refine ⟨E, N, c, env, st, d, s1, R, q1, fun v N1 c1 H1 x1 W1 r1 => ?_⟩
              have R1 := R.ex x1 W1
              obtain ⟨a, kvs, ea, ha, hm, rr⟩ := R1.sl i _ hx
              have ea := join_some ea
              refine ⟨.ref a, ea, E, N1, c1, env, s1, _, _, R1, q2, fun w N2 c2 H2 x2 W2 r2 => ?_⟩
              have R2 := R1.ex x2 W2
              obtain ⟨b, lvs, eb, hb, hm2, r3⟩ := R2.sl i _ hx
              rw [ea] at eb
              cases eb
              obtain ⟨m1, m2⟩ := put_rel (k := kk) (Rep.tr (x2.tr W1) r1) r3
              rw [hm2] at m1 m2
              have wr := R2.writeD (kvs' := putK lvs kk v) hx ea m1 m2
              have ew := r2.key hk
              subst ew
              refine ⟨a, _, rfl, DPut.k hb ?_, p N2 c2 σ _ (((x1.trans x2 R.wd).sx R.wd W2).trans wr.2) wr.1⟩
              have : lvs.length = ks.length := by rw [← hm2, List.length_map]
              rw [this]
              exact sz7 hl
            · cases q
          · cases q
        · cases q
      · cases q
    · cases q
end
end LW

/-! LwYe: {k: v, ..}. -/
namespace LW
open PySem L2 PyProof.Rows
def evP : List (SE × SE) → Fx (List (Key × D))
  | [] => fun _ st => some ([], st)
  | (a, b) :: r => fun env st => match a env st with
    | some (x, s1) => (match keyD x with
      | some k => (match b env s1 with
        | some (y, s2) => (match evP r env s2 with
          | some (l, s3) => some ((k, y) :: l, s3)
          | none => none)
        | none => none)
      | none => none)
    | none => none
def lDd (l : List (SE × SE)) : Fx DK := fun env st => match evP l env st with
  | some (ps, s1) => if ps.length ≤ 15 then some (mergeD ([], []) ps, s1) else none
  | none => none
section
variable {mg : Glob}
abbrev trP (mg : Glob) (l : List (SE × SE)) : List (TE × TE) := l.map fun p => (tE mg p.1, tE mg p.2)
theorem r_pairs {E : En} {σ : L2.St} : ∀ {l : List (SE × SE)} {N : Prot} {c : List Addr} {H : Hp} {env : Env} {st st' : Sto} {ps : List (Key × D)} {Q : List (V × V) → Hp → Prop}, Rel mg E N c env st σ H → evP l env st = some (ps, st') →
    (∀ (kvs : List (Key × V)) N' c' H', Ex N c H N' c' H' → Wd mg N' c' H' st' → kvs.map (·.1) = ps.map (·.1) → RepL mg N' c' H' (kvs.map (·.2)) (ps.map (·.2)) → Q (kvs.map fun kv => (kV kv.1, kv.2)) H') → tPairs (trP mg l) σ H Q
  | [], N, c, H, env, st, st', ps, Q, R, q, k => by
    cases q
    exact k [] N c H Ex.refl R.wd rfl .nil
  | (a, b) :: r, N, c, H, env, st, st', ps, Q, R, q, k => by
    unfold evP at q
    split at q
    · rename_i x s1 q1
      split at q
      · rename_i kk hk
        split at q
        · rename_i y s2 q2
          split at q
          · rename_i l s3 q3
            cases q
            refine ⟨E, N, c, env, st, x, s1, R, q1, fun u N1 c1 H1 x1 W1 r1 => ⟨E, N1, c1, env, s1, y, s2, R.ex x1 W1, q2, fun v N2 c2 H2 x2 W2 r2 => ?_⟩⟩
            refine r_pairs ((R.ex x1 W1).ex x2 W2) q3 fun kvs N3 c3 H3 x3 W3 e r3 => ?_
            have eu := RepT.key (.inl r1) hk
            subst eu
            exact k ((kk, v) :: kvs) N3 c3 H3 ((x1.trans x2 R.wd).trans x3 R.wd) W3 (by rw [List.map_cons, List.map_cons, e]) (.cons (Rep.tr (x3.tr W2) r2) r3)
          · cases q
        · cases q
      · cases q
    · cases q
variable {X : Cx} {pos : Pos} {keys : List (Option Expr)} {values : List Expr} {l : List (SE × SE)}
theorem dd_nil : PPs X pos [] [] (trP mg []) := pps_nil
theorem dd_cons {k v : Expr} {a b : SE} (hk : PE X k (tE mg a)) (hv : PE X v (tE mg b)) (hr : PPs X pos keys values (trP mg l)) : PPs X pos (some k :: keys) (v :: values) (trP mg ((a, b) :: l)) := pps_cons hk hv hr
theorem d_disp (h : PPs X pos keys values (trP mg l)) (hall : keys.all (·.isSome) = true := by rfl) (hl : keys.length = values.length := by rfl) (h0 : keys ≠ [] := by exact fun z => nomatch z) (h15 : keys.length ≤ 15 := by decide) : PE X (.Dict keys values pos) (tD mg (lDd l)) :=
  pe_weak (pe_disp h hall hl h0 h15) fun σ H Q ⟨E, N, c, env, st, d, st', R, q, k⟩ => by
    unfold lDd at q
    split at q
    · rename_i ps s1 q1
      split at q
      · rename_i hl
        cases q
        intro p hp
        have x0 := Ex.laidN (o := .dK []) R.wd hp
        have W0 := R.wd.laidN (o := .dK []) hp
        refine r_pairs (R.ex x0 W0) q1 fun kvs N2 c2 H2 x2 W2 e r2 => ?_
        have nc : p ∉ c := R.wd.cnone hp
        have hp2 : H2 p = some (.dK []) := x2.keep p _ upd_same nc
        have np : N2 p := x2.mono p (.inr rfl)
        have nc2 : p ∉ c2 := x2.nc W0 upd_same nc
        obtain ⟨m1, m2⟩ := merge_rel (l := ps) (more := kvs) (kvs := []) (ds := []) .nil e r2
        have tr : Tr N2 c2 H2 N2 c2 (upd H2 p (.dK (mergeK [] kvs))) := ⟨fun b o h n => by rw [upd_ne fun z => n (by rw [z]; exact np)]; exact h, fun _ z => .inl z, fun _ _ z => z⟩
        refine ⟨hp2, kvs, rfl, ?_, k (.ref p) N2 c2 _ ⟨fun b o h n => ?_, fun b z => ?_, fun b z => x2.mono b (.inl z), x2.pre, fun b z => ?_⟩ ⟨W2.len, fun j b xs h1 h2 => ?_, W2.cn, W2.nd, fun b z => ?_⟩ ⟨p, _, rfl, hp, np, nc2, upd_same, m1, m2.tr tr⟩⟩
        · have := congrArg List.length e
          rw [List.length_map, List.length_map] at this
          omega
        · have : b ≠ p := ne_of_none h hp
          rw [upd_ne this]
          exact x2.keep b o (by rw [upd_ne this]; exact h) n
        · rcases x2.new b z with (y | y) | y
          · exact .inl y
          · exact .inr (by rw [y]; exact hp)
          · by_cases w : b = p
            · rw [w, upd_same] at y; cases y
            · rw [upd_ne w] at y; exact .inr y
        · rcases x2.newc b z with y | y
          · exact .inl y
          · by_cases w : b = p
            · rw [w, upd_same] at y; cases y
            · rw [upd_ne w] at y; exact .inr y
        · obtain ⟨vs, hb, rr⟩ := W2.sto j b xs h1 h2
          exact ⟨vs, by rw [upd_ne (show b ≠ p from fun z => nc2 (z ▸ List.mem_of_getElem? h1))]; exact hb, rr.tr tr⟩
        · by_cases w : b = p
          · rw [w, upd_same]; exact fun y => nomatch y
          · rw [upd_ne w]; exact W2.trk b z
      · cases q
    · cases q
end
end LW

/-! LwYf: set(list of texts), sorted. -/
namespace LW
open PySem L2 PySem.Spec PyProof.Rows
/-! ### what a set of texts is -/
def txOf (e : Int × Value) : Str := match e.2 with
  | .str k _ => k
  | _ => ⟨#[]⟩
def TxE (w : World) (e : Int × Value) : Prop := ∃ k tk, e.2 = Value.str k tk ∧ e.1 = hashStr w k
abbrev txL (es : Array (Int × Value)) : List Str := es.toList.map txOf
/-- the table and the rows of a set that holds just the texts l -/
structure TxT (w : World) (es : Array (Int × Value)) (t : SetTable) (l : List Str) : Prop where
  row : ∀ e ∈ es.toList, TxE w e
  nd : (txL es).Nodup
  mem : ∀ k, k ∈ l ↔ k ∈ txL es
  few : es.size < scanBound
  fit : t.fits es.size = true
  ris : Ris t.place.toList
  led : w.params.followText "set-order" = true ∨ t.led = true
def SetS (w : World) (h : Heap) (a : Addr) (l : List Str) (n : Nat) : Prop := ∃ o es ep t, h.get? a = some o ∧ o.ExactSet ∧ o.data = .set es ep t ∧ TxT w es t l ∧ es.size = n
section
variable {P : Program} {w : World} {A : Around} {E : Value → Shared → Prop} {s : Shared} {a : Addr} {l : List Str} {n : Nat}
theorem SetS.at {h h' : Heap} (R : SetS w h a l n) (k : ∀ o, h.get? a = some o → h'.get? a = some o) : SetS w h' a l n := by
  obtain ⟨o, es, ep, t, ho, r⟩ := R
  exact ⟨o, es, ep, t, k o ho, r⟩
theorem tx_is (k : Str) (u : Tok) : (strKind P w).is k (.str k u) = true := by
  show Value.isStrOf k (.str k u) = true
  simp [Value.isStrOf]
theorem tx_elems {xs : List (Int × Value)} (g : ∀ e ∈ xs, TxE w e) : ElemsOf (strKind P w) xs := fun e he => by
  obtain ⟨k, tk, h1, h2⟩ := g e he
  exact ⟨⟨k, by rw [h1]; exact tx_is k tk, h2⟩, by rw [h1]; rfl⟩
theorem tx_key {e : Int × Value} (g : TxE w e) (k : Str) : (strKind P w).is k e.2 = true ↔ txOf e = k := by
  obtain ⟨z, tk, h1, _⟩ := g
  unfold txOf
  rw [h1]
  constructor
  · intro h
    exact (strKind P w).inj (.str z tk) z k (tx_is z tk) h
  · rintro rfl
    exact tx_is z tk
theorem tx_mem {xs : List (Int × Value)} (g : ∀ e ∈ xs, TxE w e) (k : Str) : k ∈ xs.map txOf ↔ ∃ e ∈ xs, (strKind P w).is k e.2 = true := by
  rw [List.mem_map]
  exact ⟨fun ⟨e, he, q⟩ => ⟨e, he, (tx_key (g e he) k).mpr q⟩, fun ⟨e, he, q⟩ => ⟨e, he, (tx_key (g e he) k).mp q⟩⟩
theorem TxT.perm {es es' : Array (Int × Value)} {t t' : SetTable} (T : TxT w es t l) (p : es'.toList.Perm es.toList) (hf : t'.fits es'.size = true) (hr : Ris t'.place.toList) (hl : t'.led = t.led) : TxT w es' t' l where
  row := fun e he => T.row e (p.mem_iff.mp he)
  nd := (p.map txOf).nodup_iff.mpr T.nd
  mem := fun k => (T.mem k).trans (p.map txOf).mem_iff.symm
  few := by rw [show es'.size = es.size by rw [← Array.length_toList, p.length_eq, Array.length_toList]]; exact T.few
  fit := hf
  ris := hr
  led := T.led.imp id fun z => hl.trans z
theorem TxT.add {es es' : Array (Int × Value)} {t t' : SetTable} {k : Str} {tk : Tok} (T : TxT w es t l) (nk : k ∉ txL es) (p : es'.toList.Perm ((hashStr w k, Value.str k tk) :: es.toList)) (room : es.size + 1 < scanBound) (hf : t'.fits es'.size = true) (hr : Ris t'.place.toList) (hl : t'.led = t.led) : TxT w es' t' (k :: l) where
  row := fun e he => by
    rcases List.mem_cons.mp (p.mem_iff.mp he) with z | z
    · rw [z]; exact ⟨k, tk, rfl, rfl⟩
    · exact T.row e z
  nd := (p.map txOf).nodup_iff.mpr (List.nodup_cons.mpr ⟨nk, T.nd⟩)
  mem := fun j => by
    rw [(p.map txOf).mem_iff, List.map_cons, List.mem_cons, List.mem_cons, T.mem j]
    rfl
  few := by rw [show es'.size = es.size + 1 by rw [← Array.length_toList, p.length_eq, List.length_cons, Array.length_toList]]; exact room
  fit := hf
  ris := hr
  led := T.led.imp id fun z => hl.trans z
/-- the end of an add: stored, and laid anew where the table is too full -/
theorem tx_tail {g : Bool → Sem Unit} (hg : ∀ (b : Bool) (s₁ : Shared) (Q' : Unit → Shared → Prop), Q' () s₁ → wpAny (model P w) A (g b) Q' E s₁) {o : Obj} {es : Array (Int × Value)} {ep : Nat} {t : SetTable}
    (ho : s.heap.get? a = some o) (hx : o.ExactSet) (hd : o.data = .set es ep t) {es1 : Array (Int × Value)} {t2 : SetTable} (T : TxT w es1 t2 l) {dummy : Bool} {R : Option Bool → Shared → Prop}
    (hR : ∀ h', Heap.SameBut a s.heap h' → SetS w h' a l es1.size → R (some true) { s with heap := h' }) :
    wpAny (model P w) A (do
        storeSet a es1 t2
        if (!dummy && t2.tooFull) = true then do
            g (relayAll t2 es1 (SetTable.grown es1.size)).2.2
            storeSet a (relayAll t2 es1 (SetTable.grown es1.size)).1 (relayAll t2 es1 (SetTable.grown es1.size)).2.1
            pure (some true)
          else pure (some true)) R E s := by
  refine wpAny_bind (wpAny_storeSet_of ho hd ?_ (fits_of_scanBound T.few))
  have o1 := store_at (es' := es1) (t' := t2) ho hd
  have b1 := Heap.SameBut.update s.heap a (Obj.putSet es1 t2)
  split
  · have T' := T.perm (relayAll_perm t2 es1 (SetTable.grown es1.size)) (relayAll_fits t2 es1 (SetTable.grown es1.size)) (relayAll_ris t2 es1 (SetTable.grown es1.size)) (relayAll_led t2 es1 (SetTable.grown es1.size))
    have pz := (relayAll_perm t2 es1 (SetTable.grown es1.size)).length_eq
    rw [Array.length_toList, Array.length_toList] at pz
    generalize relayAll t2 es1 (SetTable.grown es1.size) = Z at T' pz ⊢
    refine wpAny_bind (hg _ _ _ (wpAny_bind (wpAny_storeSet_of o1 rfl ?_ (fits_of_scanBound T'.few))))
    exact wpAny_pure (hR _ (b1.trans (Heap.SameBut.update _ a _)) ⟨_, Z.1, _, Z.2.1, store_at o1 rfl, hx, rfl, T', pz⟩)
  · exact wpAny_pure (hR _ b1 ⟨_, es1, _, t2, o1, hx, rfl, T, rfl⟩)
/-- one text more -/
theorem tx_add {k : Str} {tk : Tok} {Q : Bool → Shared → Prop} (R : SetS w s.heap a l n) (room : n + 1 < scanBound)
    (hQ : ∀ h' b m, Heap.SameBut a s.heap h' → SetS w h' a (k :: l) m → m ≤ n + 1 → Q b { s with heap := h' }) : wpAny (model P w) A (setAddHashed a (.str k tk) ((strKind P w).hash k)) Q E s := by
  obtain ⟨o, es, ep, t, ho, hx, hd, T, hn⟩ := R
  have el : ElemsOf (strKind P w) es.toList := tx_elems T.row
  unfold setAddHashed setAddHashedIn
  refine wpAny_holding (wpAny_bind (wpAny_setState_of ho hd T.fit ?_))
  dsimp only
  rw [byScan_of (show (Value.str k tk).scannable = true from rfl) T.few el, if_pos rfl]
  unfold setAddByScan
  refine wpAny_bind (wpAny_bind (wpAny_rule (wpAny_bind (wpAny_setScan_of (tx_is k tk) ho hd T.fit el ?_))))
  cases hfi : List.findIdx? (fun e => (strKind P w).is k e.2) es.toList with
  | some j =>
    dsimp only
    obtain ⟨hj, pj, _⟩ := List.findIdx?_eq_some_iff_getElem.mp hfi
    have hk : k ∈ txL es := (tx_mem (P := P) (w := w) T.row k).mpr ⟨es.toList[j], List.getElem_mem hj, pj⟩
    refine wpAny_pure (wpAny_pure (hQ s.heap _ n (Heap.SameBut.refl a s.heap) ⟨o, es, ep, t, ho, hx, hd, ⟨T.row, T.nd, fun i => ?_, T.few, T.fit, T.ris, T.led⟩, hn⟩ (Nat.le_succ _)))
    rw [List.mem_cons, T.mem i]
    exact ⟨fun z => z.elim (fun y => by rw [y]; exact hk) id, .inr⟩
  | none =>
    dsimp only
    have nk : k ∉ txL es := fun z => by
      obtain ⟨e, he, q⟩ := (tx_mem (P := P) (w := w) T.row k).mp z
      have := List.findIdx?_eq_none_iff.mp hfi e he
      rw [q] at this
      cases this
    have gave : ∀ (b : Bool) {s₁ : Shared} {Q' : Unit → Shared → Prop}, Q' () s₁ → wpAny (model P w) A (match b with | true => rule "set.scan.the-table-gave-way" | false => pure ()) Q' E s₁ :=
      fun b s₁ Q' q => by cases b <;> first | exact wpAny_pure q | exact wpAny_rule q
    have pm := layNew_perm t es ((strKind P w).hash k) (.str k tk)
    have hf1 := layNew_fits t es ((strKind P w).hash k) (.str k tk)
    have hr1 := layNew_ris t es ((strKind P w).hash k) (.str k tk) T.ris
    have hl1 := layNew_led t es ((strKind P w).hash k) (.str k tk)
    generalize layNew t es ((strKind P w).hash k) (.str k tk) = Z at pm hf1 hr1 hl1 ⊢
    obtain ⟨es1, t1, dm, gv⟩ := Z
    dsimp only at pm hf1 hr1 hl1 ⊢
    rw [Array.toList_push] at pm
    have pc : es1.toList.Perm ((hashStr w k, Value.str k tk) :: es.toList) := pm.trans (List.perm_append_singleton _ _)
    have hz : es1.size = n + 1 := by rw [← Array.length_toList, pc.length_eq, List.length_cons, Array.length_toList, hn]
    have T1 : ∀ t' : SetTable, t'.fits es1.size = true → Ris t'.place.toList → t'.led = t.led → TxT w es1 t' (k :: l) := fun t' f r d => T.add nk pc (by omega) f r d
    have fin : ∀ h' b, Heap.SameBut a s.heap h' → SetS w h' a (k :: l) es1.size → Q b { s with heap := h' } := fun h' b sb r => hQ h' b _ sb r (by omega)
    refine wpAny_bind (gave _ ?_)
    split
    · refine wpAny_bind ?_
      rw [hashByValue_scannable 8 (show (Value.str k tk).scannable = true from rfl)]
      refine wpAny_pure ?_
      refine tx_tail (l := k :: l) (fun b s₁ Q' q => by cases b <;> first | exact wpAny_pure q | exact wpAny_rule q) ho hx hd (T1 _ ?_ ?_ ?_) fun h' sb r => wpAny_pure (fin h' _ sb r)
      · first | (split <;> first | exact hf1 | exact SetTable.fits_plain_off hf1) | exact hf1
      · first | (split <;> exact hr1) | exact hr1
      · first | (split <;> exact hl1) | exact hl1
    · refine wpAny_bind (wpAny_pure ?_)
      simp only [↓reduceIte]
      exact tx_tail (l := k :: l) (fun b s₁ Q' q => by cases b <;> first | exact wpAny_pure q | exact wpAny_rule q) ho hx hd (T1 _ hf1 hr1 hl1) fun h' sb r => wpAny_pure (fin h' _ sb r)
end
end LW

/-! LwYg: set(list of texts), sorted(..) of it. -/
namespace LW
open PySem L2 PySem.Spec PyProof.Rows
section
variable {P : Program} {w : World} {A : Around} {E : Value → Shared → Prop} {s : Shared}
theorem SetS.same {h : Heap} {a : Addr} {l l' : List Str} {n : Nat} (R : SetS w h a l n) (e : ∀ k, k ∈ l ↔ k ∈ l') : SetS w h a l' n := by
  obtain ⟨o, es, ep, t, ho, hx, hd, T, hn⟩ := R
  exact ⟨o, es, ep, t, ho, hx, hd, ⟨T.row, T.nd, fun k => (e k).symm.trans (T.mem k), T.few, T.fit, T.ris, T.led⟩, hn⟩
/-- the loop of set.update over texts -/
theorem tx_loop {I : Addr} {fp wr : List Addr} {G : Array GenState → Array GenState → Prop} {n : Nat} {Pv : Nat → Value → Prop} {St : Nat → Shared → Prop} {R : Result → Shared → Prop}
    (W : WalksS P w A.in1 I fp wr G n Pv St) (S : Addr) (hS : S ∉ fp) (zs : List Str) (hn : n = zs.length) (hb : zs.length + 1 < scanBound) (hv : ∀ i v, Pv i v → ∃ k t, zs[i]? = some k ∧ v = .str k t) :
    ∀ (m i : Nat) (s : Shared), n - i = m → i ≤ n → St i s → (∃ c, c ≤ i ∧ SetS w s.heap S (zs.take i) c) →
      (∀ s' c, Moved (S :: wr) G s s' → c ≤ n → SetS w s'.heap S zs c → R (.ok (.ret .none)) s') → codeAny (model P w) A (.builtin "set.update.loop" ⟨[.ref S, .ref I], []⟩) R s
  | 0, i, s, hm, hi, hst, ⟨c, hc, hs⟩, hR => by
    have hin : i = n := by omega
    subst hin
    refine codeAny_builtin F.entry_set_update_loop ?_
    rw [Around.under_plainId F.plain_set_update_loop]
    show wpAny _ A.in1 (pyNext (.ref I) >>= _) _ _ s
    refine wpAny_bind (W.done s _ _ hst fun s' mv => ?_)
    show wpAny _ A.in1 (ret Value.none) _ _ s'
    rw [List.take_of_length_le (by omega)] at hs
    exact wpAny_pure (hR s' c (mv.mono fun b hb => List.mem_cons_of_mem _ hb) hc (hs.at fun o e => mv.heap S o (fun z => hS (W.sub _ z)) e))
  | m + 1, i, s, hm, hi, hst, ⟨c, hc, hs⟩, hR => by
    have lt : i < n := by omega
    have sub : ∀ b ∈ wr, b ∈ S :: wr := fun b hb => List.mem_cons_of_mem _ hb
    refine codeAny_builtin F.entry_set_update_loop ?_
    rw [Around.under_plainId F.plain_set_update_loop]
    show wpAny _ A.in1 (pyNext (.ref I) >>= _) _ _ s
    refine wpAny_bind (W.item i s _ _ lt hst fun v s' hP hst' mv => ?_)
    obtain ⟨z, t, hz, rfl⟩ := hv i v hP
    have hs' : SetS w s'.heap S (zs.take i) c := hs.at fun o e => mv.heap S o (fun y => hS (W.sub _ y)) e
    show wpAny _ A.in1 (holding [Value.str z t] (setAdd S (.str z t)) >>= _) _ _ s'
    refine wpAny_bind (wpAny_holding ?_)
    unfold setAdd
    refine wpAny_holding (wpAny_bind ((strKind P w).pyHash (k := z) (tx_is z t) ?_))
    refine tx_add (s := { s' with toks := s'.toks + 1 }) hs' (by omega) fun h' b c' sb hs2 hc' => ?_
    have hs3 : SetS w h' S (zs.take (i + 1)) c' := hs2.same fun k => by
      rw [List.take_add_one, hz, List.mem_cons, List.mem_append]
      simp [Or.comm]
    refine wpAny_pure ⟨plainId_quiet F.plain_set_update_loop _, tx_loop W S hS zs hn hb hv m (i + 1) _ (by omega) lt (W.frame _ s' _ _ hst' (Nat.le_succ _) fun b hb o e => ?_) ⟨c', by omega, hs3⟩ fun s'' c2 mv2 hc2 hs4 => ?_⟩
    · rw [sb.2 b fun h => hS (by rw [← h]; exact hb)]; exact e
    · refine hR s'' c2 (Moved.trans W.gtrans ((mv.mono sub).then_heap (Nat.le_succ _) fun b o hb e => ?_) mv2) hc2 hs4
      rw [sb.2 b fun h => hb (by rw [h]; exact List.mem_cons_self)]; exact e
theorem setS_new {h : Heap} {a : Addr} {zs : List Str} (ho : h.get? a = some (nS w)) : SetS w h a (zs.take 0) 0 :=
  ⟨_, #[], 0, _, ho, ⟨rfl, rfl, rfl⟩, rfl, ⟨fun e he => by simp at he, List.Pairwise.nil, fun k => by simp [txL], by decide, by rfl, List.Pairwise.nil, by
    show _ ∨ (!w.params.followText "set-order") = true
    cases w.params.followText "set-order"
    · exact .inr rfl
    · exact .inl rfl⟩, rfl⟩
abbrev SetEndS (w : World) (s : Shared) (zs : List Str) (E : Value → Shared → Prop) : Result → Shared → Prop :=
  wants (fun r s₂ => r = .none ∧ ∃ h' tk c, s₂ = { s with heap := h', toks := tk } ∧ SetS w h' s.heap.objs.size zs c ∧ c ≤ zs.length ∧ (∀ b o, s.heap.get? b = some o → h'.get? b = some o)) E
theorem str_at {vs : List Value} {zs : List Str} (h : Vals (zs.map V.str) vs) {i : Nat} {v : Value} (e : vs[i]? = some v) : ∃ k t, zs[i]? = some k ∧ v = .str k t := by
  induction zs generalizing vs i with
  | nil => cases h; simp at e
  | cons z zs ih =>
    cases h with
    | cons a b =>
      obtain ⟨t, rfl⟩ := a
      cases i with
      | zero => simp at e; exact ⟨z, t, rfl, e.symm⟩
      | succ i => exact ih b (by simpa using e)
set_option maxHeartbeats 8000000 in
theorem setT {l : Addr} {items : Array Value} (zs : List Str) {Q : Value → Shared → Prop} (hh : A.handled = none) (hl : s.heap.IsList l items) (hit : Vals (zs.map V.str) items.toList) (hb : zs.length + 1 < scanBound)
    (h : ∀ (h' : Heap) (tk c : Nat), SetS w h' s.heap.objs.size zs c → c ≤ zs.length → (∀ b o, s.heap.get? b = some o → h'.get? b = some o) → Q (.ref s.heap.objs.size) { s with heap := h', toks := tk }) :
    wpAny (model P w) A (call (.type "set") [.ref l]) Q E s := by
  have hisz : items.size = zs.length := by rw [← Array.length_toList, ← hit.length, List.length_map]
  obtain ⟨c, tl, hmro⟩ := F.called_set.mro
  have hmade := F.called_set.made
  have hsub := F.called_set.sub
  refine wpAny_call (codeAny_of_tree ?_)
  show wpAny _ _ (callAny (.type "set") _) _ _ _
  refine wpAny_pure ⟨Code.quiet_builtin _ (by decide +kernel), codeAny_builtin F.entry_type_call ?_⟩
  rw [Around.under_plain (weight_type_call_type "set" [.ref l] []) rfl]
  have h1 := F.called_set.notType
  have h2 := F.called_set.canCreate
  have hct := F.typeCall_set_1 (.ref l)
  repeat (any_goals (first | assumption | wp_step))
  refine codeAny_mono (code_set_led1 (.ref l) (E := E) (Q₁ := fun obj s₁ => obj = .ref s.heap.objs.size ∧ s₁ = { s with heap := pS w s }) ⟨rfl, rfl⟩) fun r s₁ hr => ?_
  cases r with
  | error e => exact hr
  | ok fl =>
    cases fl with
    | ret obj =>
      obtain ⟨rfl, rfl⟩ := hr
      have hS : (pS w s).get? s.heap.objs.size = some (nS w) := Heap.get?_push_size _ rfl
      have hT : Shared.TypeIs { s with heap := pS w s } (.ref s.heap.objs.size) "set" := ⟨_, hS, rfl⟩
      have hli := F.called_set.init.lookup
      have hbi := F.called_set.init.bind (.ref s.heap.objs.size)
      repeat (any_goals (first | assumption | wp_step))
      refine codeAny_mono (codeAny_call_builtin (R := SetEndS w s zs E) F.called_set.init.plain F.entry_set_init (check_set_init_1 hT ?_)) fun r₂ s₂ hr₂ => ?_
      · obtain ⟨ol, hol, hcl, nl, hdl⟩ := hl
        obtain ⟨ocls, odict, odata, oslots⟩ := ol
        simp only at hcl hdl
        subst hcl; subst hdl
        have hol' : (pS w s).get? l = some { cls := .type "list", dict := odict, data := .seq items nl, slots := oslots } := Heap.get?_push_of_some _ hol
        have hsls := F.sub_list_set
        have hslf := F.sub_list_frozenset
        have hne : (Value.type "list" == Value.type "dict") = false := by decide
        have hl1 : (pS w s).IsList l items := ⟨_, hol', rfl, nl, rfl⟩
        unfold Builtin.«set.__init__» noKeywords Builtin.Frozenset.updateFrom
        generalize hPI : pyIter = PI
        wp_walk
        subst hPI
        refine wpAny_pyIter_list hl1 ?_
        refine wpAny_bind (wpAny_runValue ?_)
        have hlS : l < s.heap.objs.size := Heap.lt_size hol
        have hh3 : A.in1.in1.in1.handled = none := by simp [hh]
        have hz1 : (pS w s).objs.size = s.heap.objs.size + 1 := Heap.size_push ..
        have hneI : l ≠ (pS w s).objs.size := hz1 ▸ Nat.ne_of_lt (Nat.lt_succ_of_lt hlS)
        have hSf : s.heap.objs.size ∉ [(pS w s).objs.size, l] := by
          rw [hz1]
          intro z
          rcases List.mem_cons.mp z with z | z
          · exact absurd z (Nat.ne_of_lt (Nat.lt_succ_self _))
          · exact absurd (List.mem_singleton.mp z) (Nat.ne_of_gt hlS)
        refine tx_loop ((Walks.list hh3 _ l hneI items).toS) s.heap.objs.size hSf zs hisz hb (fun i v hv => str_at hit (by rw [Array.getElem?_toList]; exact hv)) (items.size - 0) 0 _ (by omega) (Nat.zero_le _) ⟨⟨_, Heap.get?_push_size _ rfl, rfl, rfl⟩, (hl1.push _)⟩ ?hS0 ?hR
        case hS0 => exact ⟨0, Nat.le_refl 0, setS_new (Heap.get?_push_of_some _ hS)⟩
        case hR =>
          intro s' c' hm hc' hS'
          obtain ⟨h', g2, d', tk', os'⟩ := s'
          have eg : g2 = s.gens := hm.gens
          have ed : d' = s.drawn := hm.drawn
          have eo : os' = s.os := hm.os
          subst eg; subst ed; subst eo
          show wpAny _ _ _ _ _ _
          refine wpAny_pure ?_
          show wpAny _ _ (ret Value.none) _ _ _
          rw [hisz] at hc'
          refine wpAny_pure ⟨rfl, h', tk', c', rfl, hS', hc', fun b o e => ?_⟩
          have hb0 : b < s.heap.objs.size := Heap.lt_size e
          refine hm.heap b o ?_ (Heap.get?_push_of_some _ (Heap.get?_push_of_some _ e))
          rw [hz1]
          intro z
          rcases List.mem_cons.mp z with z | z
          · exact absurd z (Nat.ne_of_lt hb0)
          · exact absurd (List.mem_singleton.mp z) (Nat.ne_of_lt (Nat.lt_succ_of_lt hb0))
      · cases r₂ with
        | error e => exact hr₂
        | ok fl₂ =>
          cases fl₂ with
          | ret r =>
            obtain ⟨rfl, h', tk, c', rfl, hS', hc', hk'⟩ := hr₂
            repeat (any_goals (first | assumption | wp_step))
            exact h _ _ _ hS' hc' hk'
          | _ => exact hr₂.elim
    | _ => exact hr.elim
theorem strs_of : ∀ (l : List Value), (∀ v ∈ l, ∃ k tk, v = Value.str k tk) → ∃ zs : List Str, Vals (zs.map V.str) l
  | [], _ => ⟨[], .nil⟩
  | v :: l, h => by
    obtain ⟨k, tk, rfl⟩ := h v List.mem_cons_self
    obtain ⟨zs, q⟩ := strs_of l fun u hu => h u (List.mem_cons_of_mem _ hu)
    exact ⟨k :: zs, .cons ⟨tk, rfl⟩ q⟩
theorem vals_tx : ∀ {zs : List Str} {l : List Value}, Vals (zs.map V.str) l → zs = l.map fun v => txOf (0, v)
  | [], _, .nil => rfl
  | z :: zs, _, .cons ⟨t, e⟩ r => by
    subst e
    rw [List.map_cons, ← vals_tx r]
    rfl
/-- sorted of a set of texts -/
theorem sortedT {a : Addr} {l : List Str} {n : Nat} {Q : Value → Shared → Prop} (R : SetS w s.heap a l n) (hh : A.handled = none) (h64 : n < 64)
    (hQ : ∀ s' p (out : Array Value) (c : Nat) (ys : List Str), (∀ b o, s.heap.get? b = some o → s'.heap.get? b = some o) → s'.gens = s.gens → s'.os = s.os → s.heap.objs.size ≤ p →
      s'.heap.get? p = some (seqObj "list" out c) → Vals (ys.map V.str) out.toList → sortedS ys = true → ys.Nodup → (∀ k, k ∈ ys ↔ k ∈ l) → Q (.ref p) s') :
    wpAny (model P w) A (call (.builtin "sorted") [.ref a]) Q E s := by
  obtain ⟨o, es, ep, t, ho, hx, hd, T, hn⟩ := R
  refine Calls.call_function_entry kind_sorted plain_sorted entry_sorted (args_sorted1 _) ?_
  unfold Builtin.«sorted»
  refine wpAny_bind (m := checkCount "sorted" 1 1 _) (wpAny_pure ?_)
  refine wpAny_bind (collect_set (A := A.in1) hh ⟨o, ho, hx.1, hd⟩ T.fit T.few T.ris T.led fun s1 vs k1 hz g1 o1 pm => ?_)
  have hvl : vs.length = n := by rw [pm.length_eq, List.length_map, Array.length_toList]; exact hn
  obtain ⟨zs, hV⟩ := strs_of vs fun v hv => by
    obtain ⟨e, he, q⟩ := List.mem_map.mp (pm.mem_iff.mp hv)
    obtain ⟨k, tk, h1, _⟩ := T.row e he
    exact ⟨k, tk, by rw [← q]; exact h1⟩
  have pk : zs.Perm (txL es) := by
    have q := pm.map fun v => txOf (0, v)
    rw [← vals_tx hV, List.map_map] at q
    exact q
  have hzl : zs.length = n := by
    have := hV.length
    rw [List.length_map] at this
    omega
  refine wpAny_bind (wpAny_newList ?_ (by rw [hvl, sizeLine_eq]; omega))
  have hoL : (s1.heap.push (seqObj "list" vs.toArray 0)).get? s1.heap.objs.size = some (seqObj "list" vs.toArray 0) := Heap.get?_push_size _ rfl
  have hS := hV.strs
  refine wpAny_bind (wpAny_holding (wpAny_call_entry slot_list_sort ⟨_, hoL, rfl⟩ entry_list_sort (list_sort_treeK strKind_oneLt hoL hS.keysOf (fun v₁ v₂ rest e => keyKind_strs (by rw [← e]; exact hS)) (by rw [hvl]; exact h64) fun st' hp hs => ?_) (args_list_sort _)))
  obtain ⟨ys, e1, e2, e3⟩ := sorted_out_str hS hp hs
  obtain ⟨c, hc⟩ := sortedHeap_at (vs := vs) (out := (arrOf st').map (·.2)) hoL
  have pn : ys.Perm (txL es) := e2.trans pk
  refine ⟨_, rfl, wpAny_pure ⟨_, rfl, hQ _ s1.heap.objs.size _ c ys (fun b u e => ?_) g1 o1 hz hc (vals_of_strs e1) e3 (pn.nodup_iff.mpr T.nd) (fun k => by rw [pn.mem_iff, T.mem k])⟩⟩
  have q := k1 b u e
  have hlt := Heap.lt_size q
  show (sortedHeap (s1.heap.push (seqObj "list" vs.toArray 0)) s1.heap.objs.size vs ((arrOf st').map (·.2))).get? b = some u
  rw [sortedHeap_old (Nat.ne_of_lt hlt) (by rw [Heap.size_push]; exact Nat.lt_succ_of_lt hlt)]
  exact Heap.get?_push_of_some _ q
end
end LW

/-! LwYh: sorted(set(list of texts)) as data; how mirrors with dicts, texts and sets run. -/
namespace LW
open PySem L2 PySem.Spec PyProof.Rows
def insN (x : Str) : List Str → List Str
  | [] => [x]
  | y :: r => if x = y then y :: r else if leS x y then x :: y :: r else y :: insN x r
def sortN (zs : List Str) : List Str := zs.foldr insN []
theorem mem_insN {x k : Str} : ∀ {l : List Str}, k ∈ insN x l ↔ k = x ∨ k ∈ l
  | [] => by simp [insN]
  | y :: r => by
    unfold insN
    split
    · rename_i h
      subst h
      simp
    · split
      · simp
      · rw [List.mem_cons, mem_insN, List.mem_cons, ← or_assoc, ← or_assoc, or_comm (a := k = y)]
theorem mem_sortN {k : Str} : ∀ {zs : List Str}, k ∈ sortN zs ↔ k ∈ zs
  | [] => by simp [sortN]
  | z :: r => by
    show k ∈ insN z (sortN r) ↔ _
    rw [mem_insN, mem_sortN, List.mem_cons]
theorem pw_insN {x : Str} : ∀ {l : List Str}, l.Pairwise leS ∧ l.Nodup → (insN x l).Pairwise leS ∧ (insN x l).Nodup
  | [], _ => ⟨List.pairwise_singleton _ _, by simp [insN]⟩
  | y :: r, ⟨h, n⟩ => by
    obtain ⟨h1, h2⟩ := List.pairwise_cons.mp h
    obtain ⟨n1, n2⟩ := List.nodup_cons.mp n
    unfold insN
    split
    · exact ⟨h, n⟩
    · rename_i ne
      split
      · rename_i hx
        have nx : x ∉ y :: r := fun z => by
          rcases List.mem_cons.mp z with z | z
          · exact ne z
          · exact ne (leS_anti hx (h1 x z))
        refine ⟨List.pairwise_cons.mpr ⟨fun z hz => ?_, h⟩, List.nodup_cons.mpr ⟨nx, n⟩⟩
        rcases List.mem_cons.mp hz with rfl | hz
        · exact hx
        · exact leS_trans hx (h1 z hz)
      · rename_i hx
        obtain ⟨i1, i2⟩ := pw_insN (x := x) ⟨h2, n2⟩
        refine ⟨List.pairwise_cons.mpr ⟨fun z hz => ?_, i1⟩, List.nodup_cons.mpr ⟨fun z => ?_, i2⟩⟩
        · rcases mem_insN.mp hz with rfl | hz
          · exact (leS_total z y).resolve_left hx
          · exact h1 z hz
        · rcases mem_insN.mp z with z | z
          · exact ne z.symm
          · exact n1 z
theorem pw_sortN : ∀ {zs : List Str}, (sortN zs).Pairwise leS ∧ (sortN zs).Nodup
  | [] => ⟨List.Pairwise.nil, List.nodup_nil⟩
  | z :: r => pw_insN (pw_sortN (zs := r))
theorem sortN_uniq {l zs : List Str} (h : l.Pairwise leS) (n : l.Nodup) (m : ∀ k, k ∈ l ↔ k ∈ zs) : l = sortN zs :=
  ((List.perm_ext_iff_of_nodup n pw_sortN.2).mpr fun k => (m k).trans mem_sortN.symm).eq_of_pairwise (le := leS) (fun a b _ _ h1 h2 => leS_anti h1 h2) h pw_sortN.1
theorem len_insN {x : Str} : ∀ {l : List Str}, (insN x l).length ≤ l.length + 1
  | [] => by simp [insN]
  | y :: r => by
    unfold insN
    split
    · simp
    · split
      · simp
      · have := len_insN (x := x) (l := r)
        simp
        omega
theorem len_sortN : ∀ {zs : List Str}, (sortN zs).length ≤ zs.length
  | [] => by simp [sortN]
  | z :: r => by
    have h1 := len_insN (x := z) (l := sortN r)
    have h2 := len_sortN (zs := r)
    show (insN z (sortN r)).length ≤ _
    rw [List.length_cons]
    omega
def tSN (K : PySem.W.Frag) (ta : TE) : TE := fun σ H Q => ta σ H fun x H1 => ∃ (l : Addr) (zs : List Str), x = .ref l ∧ SqL K H1 l (zs.map V.str) ∧ zs.length < 64 ∧ ∀ p, H1 p = none → Q (.ref p) (upd H1 p (.lst ((sortN zs).map V.str)))
section
variable {X : Cx}
theorem pe_sn {a : Expr} {ta : TE} {p p2 q pos : Pos} (hc : X.calm = true) (hg : Gl X "sorted") (hm : X.mg "sorted" = none) (hg2 : Gl X "set") (hm2 : X.mg "set" = none) (ha : PE X a ta)
    (na : starEach [a] X.env = (false, eval a X.env) :: starEach [] X.env := by rfl) : PE X (.Call (.Name "sorted" p) [.Call (.Name "set" p2) [a] [] q] [] pos) (tSN X.K ta) := by
  refine ⟨fun pins s σ H Q I h => ?_⟩
  refine Call_ (ld_blt I hg hm (u := .builtin "sorted") (by decide +kernel) ?_)
  refine PyProof.Rows.callWith_builtin1 (PyProof.Rows.args_cons ?_ rfl) rfl rfl
  refine Call_ (ld_blt I hg2 hm2 PyProof.Rows.boot_set ?_)
  refine PyProof.Rows.callWith_type1 (PyProof.Rows.args_cons (thn (ha.run pins s σ H _ I h) fun v s1 ⟨x, H1, I1, r1, q1⟩ => PyProof.Rows.args_nil ?_) na) na rfl
  obtain ⟨l, zs, rfl, hq, h64, q1⟩ := q1
  cases r1
  obtain ⟨its, r, pl, hz⟩ := I1.list hq
  refine setT zs (I1.ok.hd hc) pl.isList (by simpa using r) (by unfold scanBound; omega) fun h' tk c hS hc' hk => ?_
  refine PyProof.Rows.args_nil ?_
  have I2 : Inv X pins σ H1 { s1 with heap := h', toks := tk } := I1.kept hk
  refine sortedT hS (I2.ok.hd hc) (by omega) fun s' p out cc ys k g o hp hgt hv hs hnd hmm => ?_
  have e1 : ys = sortN zs := sortN_uniq (sorted_pw ys hs) hnd hmm
  have hlen : (ys.map V.str).length ≤ sizeLine := by
    rw [List.length_map, e1, sizeLine_eq]
    have := len_sortN (zs := zs)
    omega
  have hn : H1 p = none := I2.hok.fresh hp
  have J : Inv X pins σ (upd H1 p (.lst (ys.map V.str))) { s1 with heap := s'.heap, gens := s'.gens, drawn := s'.drawn, toks := s'.toks } :=
    L2.Inv.call (s := { s1 with heap := h', toks := tk }) (ch := []) I2 (Un.laid k hp hn) (I2.hok.laid k hp ⟨hlen, out.toList, cc, hv, hgt⟩) (by rw [g]; exact I2.bare) (fun _ z => nomatch z)
  have e : s' = { s1 with heap := s'.heap, gens := s'.gens, drawn := s'.drawn, toks := s'.toks } := by
    cases s'
    cases s1
    cases o
    rfl
  rw [e]
  refine ⟨.ref p, _, J, rfl, ?_⟩
  rw [e1]
  exact q1 p hn
end
def eSN (fa : SE) : Fx (List D) := fun env st => match fa env st with
  | some (x, s1) => (match lstS s1 x with
    | some zs => if zs.length < 64 then some ((sortN zs).map D.str, s1) else none
    | none => none)
  | none => none
theorem d_sn {mg : Glob} {X : Cx} {a : Expr} {fa : SE} {p p2 q pos : Pos} (hc : X.calm = true) (hm : X.mg "sorted" = none) (hm2 : X.mg "set" = none) (ha : PE X a (tP mg fa)) (hg : Gl X "sorted" := by rfl) (hg2 : Gl X "set" := by rfl)
    (na : starEach [a] X.env = (false, eval a X.env) :: starEach [] X.env := by rfl) (hK : X.K = mg.K := by rfl) : PE X (.Call (.Name "sorted" p) [.Call (.Name "set" p2) [a] [] q] [] pos) (tL mg (eSN fa)) :=
  pe_weak (pe_sn hc hg hm hg2 hm2 ha na) fun σ H Q ⟨E, N, c, env, st, d, st', R, z, k⟩ => by
    unfold eSN at z
    split at z
    · rename_i x s1 z1
      split at z
      · rename_i zs hn
        split at z
        · rename_i hl
          cases z
          refine ⟨E, N, c, env, st, x, _, R, z1, fun v N1 c1 H1 x1 W1 r1 => ?_⟩
          obtain ⟨l, rfl, hq⟩ := RepT.strs W1 r1 hn
          refine ⟨l, zs, rfl, hK ▸ hq, hl, fun p hp => ?_⟩
          exact k _ _ c1 _ (x1.trans (Ex.laidN W1 hp) R.wd) (W1.laidN hp) (back_N R.wd x1 W1 (RN.laid W1 hp (RepL.strs _)))
        · cases z
      · cases z
    · cases z
/-! ### how mirrors run -/
section
variable {env : Env} {st : Sto} {Q : D → Sto → Prop} {QL : List D → Sto → Prop} {QK : DK → Sto → Prop} {QS : Out → Sto → Prop} {QI : Src → Sto → Prop} {i : Nat} {fe fj fk : SE} {f : Fx DK} {fs : SA}
theorem z_ins (h : Ok (fj env st) fun j s1 => AsI j fun j => Ok (fe env s1) fun d s2 => ∃ xs, env[i]? = some (.own xs) ∧ (xs.length < 1000000 ∧ 0 ≤ j ∧ j < 2 ^ 62) ∧ QS (.nx (env.set i (.own (xs.take j.toNat ++ [d] ++ xs.drop j.toNat)))) s2) : Ok (sIns i fj fe env st) QS := by
  obtain ⟨o, s1, e1, h⟩ := h
  obtain ⟨j, rfl, d, s2, e2, xs, e3, l, q⟩ := h.of
  exact ⟨_, s2, by unfold sIns; rw [e1]; dsimp only; rw [e2]; dsimp only; rw [e3]; dsimp only; rw [if_pos l], q⟩
theorem z_ownD (h : Ok (f env st) fun d s => QS (.nx (env.set i (.ownD d.1 d.2))) s) : Ok (sOwnD i f env st) QS := by
  obtain ⟨d, s1, e1, h⟩ := h
  exact ⟨_, s1, by unfold sOwnD; rw [e1], h⟩
theorem z_putK (h : Ok (fe env st) fun d s1 => Ok (fk env s1) fun y s2 => ∃ ks vs k, env[i]? = some (.ownD ks vs) ∧ keyD y = some k ∧ ks.length < 1000000 ∧ QS (.nx (env.set i (.ownD (putKD (ks, vs) k d).1 (putKD (ks, vs) k d).2))) s2) : Ok (sPutK i fk fe env st) QS := by
  obtain ⟨d, s1, e1, y, s2, e2, ks, vs, k, e3, e4, l, q⟩ := h
  exact ⟨_, s2, by unfold sPutK; rw [e1]; dsimp only; rw [e2]; dsimp only; rw [e3]; dsimp only; rw [e4]; dsimp only; rw [if_pos l], q⟩
theorem z_getO {ks : List Key} {vs : List D} (e : env[i]? = some (.ownD ks vs)) (h : Ok (fk env st) fun y s1 => ∃ k d, keyD y = some k ∧ getD ks vs k = some d ∧ Q d s1) : Ok (eGetO i fk env st) Q := by
  obtain ⟨y, s1, e1, k, d, e2, e3, q⟩ := h
  exact ⟨d, s1, by unfold eGetO; rw [e]; dsimp only; rw [e1]; dsimp only; rw [e2]; dsimp only; rw [e3], q⟩
theorem z_D (h : Ok (f env st) fun d s => Q (.dic d.1 d.2) s) : Ok (eD f env st) Q := by
  obtain ⟨d, s1, e1, h⟩ := h
  exact ⟨_, s1, by unfold eD; rw [e1]; rfl, h⟩
theorem z_d0 (h : QK ([], []) st) : Ok (lD0 env st) QK := ⟨_, st, rfl, h⟩
theorem z_evN {Q : List (Key × D) → Sto → Prop} (h : Q [] st) : Ok (evP [] env st) Q := ⟨_, st, rfl, h⟩
theorem z_evC {Q : List (Key × D) → Sto → Prop} {l : List (SE × SE)} (h : Ok (fk env st) fun x s1 => ∃ k, keyD x = some k ∧ Ok (fe env s1) fun y s2 => Ok (evP l env s2) fun ps s3 => Q ((k, y) :: ps) s3) : Ok (evP ((fk, fe) :: l) env st) Q := by
  obtain ⟨x, s1, e1, k, e2, y, s2, e3, ps, s3, e4, q⟩ := h
  exact ⟨_, s3, by unfold evP; rw [e1]; dsimp only; rw [e2]; dsimp only; rw [e3]; dsimp only; rw [e4], q⟩
theorem z_dd {l : List (SE × SE)} (h : Ok (evP l env st) fun ps s => ps.length ≤ 15 ∧ QK (mergeD ([], []) ps) s) : Ok (lDd l env st) QK := by
  obtain ⟨ps, s1, e1, l, q⟩ := h
  exact ⟨_, s1, by unfold lDd; rw [e1]; dsimp only; rw [if_pos l], q⟩
theorem z_sgn (h : Ok (fe env st) fun d s => ∃ x, d = .str x ∧ QI (signsD x, noChk) s) : Ok (iSgn fe env st) QI := by
  obtain ⟨d, s1, e1, x, rfl, q⟩ := h
  exact ⟨_, s1, by unfold iSgn; rw [e1], q⟩
theorem z_ky {ks : List Key} {vs : List D} (e : env[i]? = some (.val (.dic ks vs))) (h : QI (ks.map keyV, noChk) st) : Ok (iKy i env st) QI := ⟨_, st, by unfold iKy; rw [e], h⟩
theorem z_sn (h : Ok (fe env st) fun x s => ∃ zs, lstS s x = some zs ∧ zs.length < 64 ∧ QL ((sortN zs).map D.str) s) : Ok (eSN fe env st) QL := by
  obtain ⟨x, s1, e1, zs, e2, l, q⟩ := h
  exact ⟨_, s1, by unfold eSN; rw [e1]; dsimp only; rw [e2]; dsimp only; rw [if_pos l], q⟩
theorem z_enum (h : Ok (fs env st) fun ds s => ∃ xs, ds = [.lst xs] ∧ QI (enumD 0 xs, noChk) s) : Ok (iEnm fs env st) QI := by
  obtain ⟨ds, s, e, xs, rfl, q⟩ := h
  exact ⟨_, s, by unfold iEnm; rw [e], q⟩
end
end LW

/-! LwZa: == and != of dicts whose values are instances with an own __eq__ (the heap grows meanwhile). -/
namespace PySem.W
open PySem PySem.Calls PyProof.Rows PyProof.V PySem.Spec
section
variable {prog : Program} {w : World} {K : Type} [DecidableEq K] {knd : KeyKind prog w K} {A : Around} {E : Value → Shared → Prop} {s : Shared}
/-- all entries are equal; J i: how it stands when i of them have been seen -/
theorem lw_samePairs {nm : String} {a b : Addr} {ka : List (K × Value)} {Q : Bool → Shared → Prop} (J : Nat → Shared → Prop) (ha : (a == sysModules) = false) (hb : (b == sysModules) = false)
    (da : s.heap.DictOf knd a ka) (keep : ∀ i s', J i s' → s'.heap.get? a = s.heap.get? a) 
    (item : ∀ i s', J i s' → ∃ kb, s'.heap.DictOf knd b kb ∧ ka.length = kb.length ∧ ∀ k v, ka[i]? = some (k, v) → ∃ y, valueAt kb k = some y ∧ ∀ R : Bool → Shared → Prop, (∀ s2, J (i + 1) s2 → R true s2) → wpAny (model prog w) A (eqBool v y) R E s')
    (h0 : J 0 s) (h : ∀ s', J ka.length s' → Q true s') :
    wpAny (model prog w) A (Builtin.Dict.samePairs nm a b) Q E s := by
  obtain ⟨oa, es, ep, hoa, _, hda, hka, hpa, _⟩ := da
  have hla : ka.length = es.size := by rw [← hpa.length]; exact Array.length_toList
  have hoaJ : ∀ i s', J i s' → s'.heap.get? a = some oa := fun i s' j => by rw [keep i s' j]; exact hoa
  obtain ⟨kb0, ⟨ob0, es0, ep0, hob0, _, hdb0, hkb0, hpb0, _⟩, hl, _⟩ := item 0 s h0
  have hlb : kb0.length = es0.size := by rw [← hpb0.length]; exact Array.length_toList
  have hsz : es.size = es0.size := by omega
  unfold Builtin.Dict.samePairs Builtin.Dict.showsAll
  rw [if_neg (show ¬ (a == sysModules) = true by rw [ha]; exact Bool.false_ne_true), if_neg (show ¬ (b == sysModules) = true by rw [hb]; exact Bool.false_ne_true)]
  refine wpAny_bind (wpAny_pure (wpAny_bind (wpAny_pure ?_)))
  refine wpAny_bind (wpAny_dictEntries hoa hda ?_)
  dsimp only
  refine wpAny_bind (wpAny_dictEntries hob0 hdb0 ?_)
  rw [if_neg (by rw [hsz]; simp)]
  refine wpAny_bind (wpAny_dictEpoch hoa hda ?_)
  refine wpAny_bind ?_
  rw [Std.Legacy.Range.forIn_eq_forIn_range']
  simp only [Std.Legacy.Range.size, Nat.sub_zero, Nat.add_sub_cancel, Nat.div_one]
  refine wpAny_forIn_list _
    (fun rest q s' => q = (none, ()) ∧ ∃ i, rest = List.range' i (es.size - i) ∧ i ≤ es.size ∧ J i s')
    _ ?_ ?_ _ _ ⟨rfl, 0, by simp, Nat.zero_le _, h0⟩
  · rintro x rest q s' ⟨rfl, i, hr, hi, hj⟩
    have hlt : i < es.size := by
      rcases Nat.lt_or_ge i es.size with h | h
      · exact h
      · rw [Nat.sub_eq_zero_of_le h] at hr; simp at hr
    obtain ⟨rfl, hrest⟩ : x = i ∧ rest = List.range' (i + 1) (es.size - (i + 1)) := by
      have e : es.size - i = (es.size - (i + 1)) + 1 := by omega
      rw [e, List.range'_succ] at hr
      injection hr with h1 h2
      exact ⟨h1, h2⟩
    have hoa' := hoaJ x s' hj
    obtain ⟨kb, ⟨ob, es', ep', hob, _, hdb, hkb, hpb, _⟩, _, it⟩ := item x s' hj
    have hfind : ∀ k, findBy knd.is es' k = valueAt kb k := fun k => by
      rw [← hpb.find k]
      clear hpb hkb hdb hob
      obtain ⟨l⟩ := es'
      simp [findBy]
    refine wpAny_bind (wpAny_dictEntries hoa' hda ?_)
    rw [Array.getElem?_eq_getElem hlt]
    have hlt' : x < ka.length := by rw [hla]; exact hlt
    obtain ⟨k, v, hkv⟩ : ∃ k v, ka[x] = (k, v) := ⟨_, _, rfl⟩
    have hkv' : ka[x]? = some (k, v) := by rw [List.getElem?_eq_getElem hlt', hkv]
    obtain ⟨hkey, hval⟩ := hpa.get? (i := x) (e := es[x]) (k := k) (v := v) (by rw [Array.getElem?_toList]; exact Array.getElem?_eq_getElem hlt) hkv'
    obtain ⟨k', hk', hh⟩ := hka es[x] (Array.getElem_mem hlt)
    have ekk : k' = k := knd.inj _ _ _ hk' hkey
    rw [ekk] at hh
    show wpAny _ _ (holding [es[x].key, es[x].val] _ >>= _) _ _ _
    rw [hh]
    refine wpAny_bind (wpAny_holding (wpAny_bind (wpAny_dictFind_of hkey hob hdb hkb ?_)))
    obtain ⟨y, hy, run⟩ := it k v hkv'
    cases hjx : es'.findIdx? fun e => knd.is k e.key with
    | none =>
      have hn : valueAt kb k = none := by rw [← hfind k, findBy_of_findIdx?, hjx]
      rw [hn] at hy; exact nomatch hy
    | some j =>
      obtain ⟨hjlt, _, _⟩ := Array.findIdx?_eq_some_iff_getElem.mp hjx
      have hv' : valueAt kb k = some es'[j].val := by
        rw [← hfind k, findBy_of_findIdx?, hjx]
        simp [Array.getElem?_eq_getElem hjlt]
      refine wpAny_bind (wpAny_dictEntries hob hdb ?_)
      rw [Array.getElem?_eq_getElem hjlt]
      have ey : es'[j].val = y := Option.some.inj (hv'.symm.trans hy)
      rw [← ey, ← hval] at run
      refine wpAny_holding (run _ fun s2 hj2 => ?_)
      show wpAny _ _ (if (!true) = true then _ else _) _ _ _
      rw [if_neg (by decide)]
      refine wpAny_bind (wpAny_dictEpoch (hoaJ _ _ hj2) hda ?_)
      rw [if_neg (by simp)]
      exact wpAny_pure ⟨rfl, x + 1, hrest, hlt, hj2⟩
  · rintro q s' ⟨rfl, i, hr, hi, hj⟩
    have hin : i = es.size := by
      rcases Nat.lt_or_ge i es.size with h | h
      · have e : es.size - i = (es.size - (i + 1)) + 1 := by omega
        rw [e, List.range'_succ] at hr; exact nomatch hr
      · exact Nat.le_antisymm hi h
    refine wpAny_pure ?_
    rw [hin, ← hla] at hj
    exact h s' hj
theorem lw_dict_eq {a b : Addr} {ka : List (K × Value)} {Q : Value → Shared → Prop} (J : Nat → Shared → Prop) (ha : (a == sysModules) = false) (hb : (b == sysModules) = false)
    (da : s.heap.DictOf knd a ka) (keep : ∀ i s', J i s' → s'.heap.get? a = s.heap.get? a)
    (item : ∀ i s', J i s' → ∃ kb, s'.heap.DictOf knd b kb ∧ ka.length = kb.length ∧ ∀ k v, ka[i]? = some (k, v) → ∃ y, valueAt kb k = some y ∧ ∀ R : Bool → Shared → Prop, (∀ s2, J (i + 1) s2 → R true s2) → wpAny (model prog w) A.in1 (eqBool v y) R E s')
    (h0 : J 0 s) (hu : A.units < cLine) (h : ∀ s', J ka.length s' → Q (.bool true) s') : wpAny (model prog w) A (richCompare .Eq (.ref a) (.ref b)) Q E s := by
  obtain ⟨kb, db, _, _⟩ := item 0 s h0
  refine wpAny_richCompare_same_room (op := .Eq) da.typeIs db.typeIs PySem.F.slot_dict_eq (wpAny_call_entry PySem.F.slot_dict_eq da.typeIs PySem.F.entry_dict_eq ?_ (PySem.F.args_dict_eq_2 _ _)) hu
  show wpAny _ _ (Builtin.Dict.dictSlotArgs "__eq__" ⟨[.ref a, .ref b], []⟩ >>= _) _ _ s
  refine wpAny_bind ?_
  unfold Builtin.Dict.dictSlotArgs
  refine wpAny_bind (wpAny_notOrdered_dict da.typeIs ?_)
  show wpAny _ _ (pure (Value.ref a, Value.ref b)) _ _ s
  refine wpAny_pure ?_
  refine wpAny_bind (wpAny_isInstance (T := "dict") db.typeIs PySem.F.sub_dict_dict ?_)
  simp only [Bool.not_true, Bool.false_eq_true, if_false]
  refine wpAny_bind (wpAny_pure (wpAny_bind (wpAny_pure ?_)))
  refine wpAny_bind (lw_samePairs J ha hb da keep item h0 fun s' hj => ?_)
  exact wpAny_pure ⟨_, rfl, fun x => (nomatch x), h s' hj⟩
theorem lw_dict_ne {a b : Addr} {ka : List (K × Value)} {Q : Value → Shared → Prop} (J : Nat → Shared → Prop) (ha : (a == sysModules) = false) (hb : (b == sysModules) = false)
    (da : s.heap.DictOf knd a ka) (keep : ∀ i s', J i s' → s'.heap.get? a = s.heap.get? a)
    (item : ∀ i s', J i s' → ∃ kb, s'.heap.DictOf knd b kb ∧ ka.length = kb.length ∧ ∀ k v, ka[i]? = some (k, v) → ∃ y, valueAt kb k = some y ∧ ∀ R : Bool → Shared → Prop, (∀ s2, J (i + 1) s2 → R true s2) → wpAny (model prog w) A.in1 (eqBool v y) R E s')
    (h0 : J 0 s) (hu : A.units < cLine) (h : ∀ s', J ka.length s' → Q (.bool false) s') : wpAny (model prog w) A (richCompare .NotEq (.ref a) (.ref b)) Q E s := by
  obtain ⟨kb, db, _, _⟩ := item 0 s h0
  refine wpAny_richCompare_same_room (op := .NotEq) da.typeIs db.typeIs PySem.F.slot_dict_ne (wpAny_call_entry PySem.F.slot_dict_ne da.typeIs PySem.F.entry_dict_ne ?_ (PySem.F.args_dict_ne_2 _ _)) hu
  show wpAny _ _ (Builtin.Dict.dictSlotArgs "__ne__" ⟨[.ref a, .ref b], []⟩ >>= _) _ _ s
  refine wpAny_bind ?_
  unfold Builtin.Dict.dictSlotArgs
  refine wpAny_bind (wpAny_notOrdered_dict da.typeIs ?_)
  show wpAny _ _ (pure (Value.ref a, Value.ref b)) _ _ s
  refine wpAny_pure ?_
  refine wpAny_bind (wpAny_isInstance (T := "dict") db.typeIs PySem.F.sub_dict_dict ?_)
  simp only [Bool.not_true, Bool.false_eq_true, if_false]
  refine wpAny_bind (wpAny_pure (wpAny_bind (wpAny_pure ?_)))
  refine wpAny_bind (lw_samePairs J ha hb da keep item h0 fun s' hj => ?_)
  exact wpAny_pure ⟨_, rfl, fun x => (nomatch x), h s' hj⟩
end
end PySem.W

/-! LwZb: == and != of dicts of instances with an own __eq__, as data. -/
namespace LW
open PySem L2 PyProof.Rows
/-! ### mirrors that leave the store -/
def PureF {α : Type} (f : Fx α) : Prop := ∀ env st d st', f env st = some (d, st') → st' = st
theorem pu_var {i : Nat} : PureF (eVar i) := fun env st d st' h => by
  unfold eVar at h
  split at h <;> first | (cases h; rfl) | cases h
theorem pu_pk {i : Nat} : PureF (ePeek i) := fun env st d st' h => by
  unfold ePeek at h
  split at h <;> first | (cases h; rfl) | cases h
theorem pu_c {x : D} : PureF (eC x) := fun env st d st' h => by cases h; rfl
theorem pu_nil : PureF aNil := fun env st d st' h => by cases h; rfl
theorem pu_cons {f : SE} {g : SA} (hf : PureF f) (hg : PureF g) : PureF (aCons f g) := fun env st d st' h => by
  unfold aCons at h
  split at h
  · cases h
  · rename_i x s1 h1
    split at h
    · cases h
    · rename_i y s2 h2
      cases h
      rw [hg _ _ _ _ h2, hf _ _ _ _ h1]
theorem pu_bi {α : Type} {g : List D → Sto → Option α} {f : SA} (hf : PureF f) : PureF (eBi g f) := fun env st d st' h => by
  unfold eBi at h
  split at h
  · cases h
  · rename_i x s1 h1
    split at h
    · cases h
    · cases h
      exact hf _ _ _ _ h1
theorem pu_op {α : Type} {op : D → D → Sto → Option α} {f g : SE} (hf : PureF f) (hg : PureF g) : PureF (eOp op f g) := fun env st d st' h => by
  unfold eOp at h
  split at h
  · cases h
  · rename_i x s1 h1
    split at h
    · cases h
    · rename_i y s2 h2
      split at h
      · cases h
      · cases h
        rw [hg _ _ _ _ h2, hf _ _ _ _ h1]
theorem pu_fld {cn m : Str} {f : SE} (hf : PureF f) : PureF (eFld cn m f) := fun env st d st' h => by
  unfold eFld at h
  split at h
  · rename_i h1
    split at h
    · split at h
      · cases h
        exact hf _ _ _ _ h1
      · cases h
    · cases h
  · cases h
theorem pu_and {f g : SE} (hf : PureF f) (hg : PureF g) : PureF (eAnd f g) := fun env st d st' h => by
  unfold eAnd at h
  split at h
  · rename_i h1
    rw [hg _ _ _ _ h, hf _ _ _ _ h1]
  · rename_i h1
    cases h
    exact hf _ _ _ _ h1
  · cases h
def PureM (g : FM) : Prop := ∀ ds st d st', g ds st = some (d, st') → st' = st
theorem pu_fn {n m : Nat} {f : SE} (hf : PureF f) : PureM (fnM n m (sRet f)) := fun ds st d st' h => by
  unfold fnM sRet at h
  split at h
  · split at h
    · rename_i h1
      cases h
      split at h1
      · rename_i h2
        cases h1
        exact hf _ _ _ _ h2
      · cases h1
    · rename_i h1
      split at h1
      · cases h1
      · cases h1
    · cases h
  · cases h
/-! ### two equal items -/
def itemO (cn : Str) (g : FM) (st : Sto) (x y : D) : Bool := match x, y with
  | .obj c1 n1 v1, .obj c2 n2 v2 => decide (c1 = cn) && decide (c2 = cn) && (match g [.obj c1 n1 v1, .obj c2 n2 v2] st with
    | some (.bl b, _) => b
    | _ => false)
  | x, y => eqX 40 x y
section
variable {mg : Glob} {X : Cx} {pins : List (Addr × Obj)} {σ : L2.St} {H : Hp} {s : Shared} {N : Prot} {c : List Addr} {st : Sto} {k : Nat} {C : Addr} {cs : List Str} {g : FM} {cn : Str} {E : Value → Shared → Prop}
theorem itemO_run (h : EqF X k C cs g) (hC : X.mg cn = some (.ref C)) (hcn : cn ∈ cs) (hp : PureM g) (hr : Room (k + 1) X.A.in1) (I : Inv X pins σ H s) (W : Wd ⟨X.mg, X.K⟩ N c H st) {x y : D} {v u : V} {vv uu : Value}
    (rx : Rep ⟨X.mg, X.K⟩ N c H v x) (ry : Rep ⟨X.mg, X.K⟩ N c H u y) (e : itemO cn g st x y = true) (rv : RelV v vv) (ru : RelV u uu) {R : Bool → Shared → Prop}
    (k : ∀ N' c' H' s', Ex N c H N' c' H' → Wd ⟨X.mg, X.K⟩ N' c' H' st → Inv X pins σ H' s' → R true s') : wpAny (model X.prog X.w) X.A.in1 (eqBool vv uu) R X.xe s := by
  unfold itemO at e
  split at e
  · rename_i c1 n1 v1 c2 n2 v2
    rw [Bool.and_eq_true, Bool.and_eq_true] at e
    obtain ⟨⟨e1, e2⟩, e3⟩ := e
    have e1 := of_decide_eq_true e1
    have e2 := of_decide_eq_true e2
    subst e1
    subst e2
    split at e3
    · rename_i b st1 hg
      subst e3
      obtain ⟨a, C', dx, fs, rfl, hc, ha, hn, rr⟩ := RepT.obj (.inl rx)
      obtain ⟨b, C2, dx2, fs2, rfl, hc2, hb, hn2, rr2⟩ := RepT.obj (.inl ry)
      have hc : X.mg c2 = some (.ref C') := hc
      have hc2 : X.mg c2 = some (.ref C2) := hc2
      rw [hC] at hc hc2
      cases hc
      cases hc2
      cases (show vv = Value.ref a from rv)
      cases (show uu = Value.ref b from ru)
      by_cases eab : a = b
      · subst eab
        exact (SeqAt.EqAt.same _).eqP _ _ (k N c H s Ex.refl W I)
      · unfold eqBool
        refine wpAny_holding ?_
        refine wpAny_ite_split (fun hab => absurd (by have := eq_of_beq hab; injection this) eab) (fun _ => ?_)
        have est := hp _ _ _ _ hg
        subst est
        have tyy : ∃ t, TyX X.K H (.ref b) t ∧ PySem.W.notFirst X.K C t = true := by
          have cf := h.isi.cf _ C hcn hC
          exact ⟨_, .base (.ins hb cf.cl cf.ha cf.hn cf.htk cf.hm), h.nf.own _ C hcn hC⟩
        obtain ⟨t, ty, nf⟩ := tyy
        obtain ⟨mA, J, _⟩ := ins_get I.hok ha
        obtain ⟨od, J, _⟩ := J.look
        obtain ⟨P, Z, p, _⟩ := kit_of I ru ty
        obtain ⟨m, hF⟩ := I.fr
        obtain ⟨ps, hpl, f, fd, hm, F, hbd, har⟩ := h.eq
        rw [hpl] at F har
        refine wpAny_bind ?_
        refine PySem.W.cmp_K (op := .Eq) (tb := t) (by have := hr.un; omega) hF I.ok.mod.kin J (Z.ty _ _ I.kIn p) nf hm.at_ hm.fn ?_
        have r2 : Vals [V.ref a, V.ref b] [Value.ref a, Value.ref b] := .cons rfl (.cons rfl .nil)
        have q : spM ⟨X.mg, X.K⟩ g 2 [V.ref a, V.ref b] H (fun v H' => v = .bl true ∧ ∃ N' c', Ex N c H N' c' H' ∧ Wd ⟨X.mg, X.K⟩ N' c' H' st1) E0 :=
          ⟨rfl, N, c, _, st1, _, st1, W, .cons rx (.cons ry .nil), hg, fun w N3 c3 H3 x3 W3 r3 => ⟨RepT.bl (.inl r3), N3, c3, x3, W3⟩⟩
        have hl : ([Value.ref a, Value.ref b] : List Value).length = ps.length := by
          have e := F.len _ _ _ _ q
          exact e
        refine wpAny_call (codeAny_mono (F.run X.A.in1 X.stack s H ⟨[.ref a, .ref b], []⟩ [.ref a, .ref b] [.ref a, .ref b] _ E0 (hr.mono (Nat.le_succ _)) I.env0.in1 (by
          have z := hbd s [.ref a, .ref b] I.kIn (by rw [List.append_nil]; exact hl)
          rw [List.append_nil] at z
          exact z) r2 q) fun r s' hq => ?_)
        cases r with
        | error e => exact hq.elim
        | ok fl =>
          cases fl with
          | ret w =>
            obtain ⟨z, H', I', rz, rfl, N', c', x', W'⟩ := I.after hq
            obtain rfl : w = Value.bool true := rz
            exact wpAny_truthy_bool (k N' c' H' s' x' W' I')
          | next => exact False.elim hq
          | brk => exact False.elim hq
          | cont => exact False.elim hq
    · cases e3
  · have hx := eqX_rel 40 _ _ _ _ e rx ry
    exact eqX_run I 40 X.A.in1 (by have := hr.un; omega) _ _ _ _ hx rv ru _ _ (k N c H s Ex.refl W I)
theorem repl_get {vs : List V} {ds : List D} (r : RepL ⟨X.mg, X.K⟩ N c H vs ds) {i : Nat} {v : V} (e : vs[i]? = some v) : ∃ d, ds[i]? = some d ∧ Rep ⟨X.mg, X.K⟩ N c H v d := r.getV e
theorem all2_get {f : D → D → Bool} : ∀ {xs ys : List D} {i : Nat} {x y : D}, all2 f xs ys = true → xs[i]? = some x → ys[i]? = some y → f x y = true
  | [], _, _, _, _, _, h, _ => by simp at h
  | _ :: _, [], _, _, _, e, _, _ => by cases e
  | a :: xs, b :: ys, 0, x, y, e, h, h' => by
    unfold all2 at e
    rw [Bool.and_eq_true] at e
    simp at h h'
    rw [← h, ← h']
    exact e.1
  | a :: xs, b :: ys, i + 1, x, y, e, h, h' => by
    unfold all2 at e
    rw [Bool.and_eq_true] at e
    exact all2_get e.2 (by simpa using h) (by simpa using h')
theorem all2_len {f : D → D → Bool} : ∀ {xs ys : List D}, all2 f xs ys = true → xs.length = ys.length
  | [], [], _ => rfl
  | _ :: _, [], e => by cases e
  | [], _ :: _, e => by cases e
  | _ :: xs, _ :: ys, e => by
    unfold all2 at e
    rw [Bool.and_eq_true] at e
    rw [List.length_cons, List.length_cons, all2_len e.2]
/-- the k-th key's value -/
theorem val_at : ∀ {kvs : List (Key × V)} {i : Nat} {k : Key} {u : V}, (kvs.map (·.1)).Pairwise (· ≠ ·) → (kvs.map (·.1))[i]? = some k → (kvs.map (·.2))[i]? = some u → valV kvs k = some u
  | [], i, _, _, _, h, _ => by simp at h
  | kv :: r, 0, k, u, _, h, h' => by
    simp at h h'
    rw [← h']
    exact valV_pos h
  | kv :: r, i + 1, k, u, n, h, h' => by
    rw [List.map_cons] at n h h'
    obtain ⟨n1, n2⟩ := List.pairwise_cons.mp n
    have h1 : (r.map (·.1))[i]? = some k := by simpa using h
    rw [valV_neg (n1 k (List.mem_of_getElem? h1))]
    exact val_at n2 h1 (by simpa using h')
theorem paired_at {α β : Type} {F : α → β → Prop} {xs : List α} {ys : List β} (h : Paired F xs ys) : ∀ {i : Nat} {x : α} {y : β}, xs[i]? = some x → ys[i]? = some y → F x y := by
  induction h with
  | nil => intro i x y e _; simp at e
  | cons h _ ih =>
    intro i x y e1 e2
    cases i with
    | zero => simp at e1 e2; rw [← e1, ← e2]; exact h
    | succ i => exact ih (by simpa using e1) (by simpa using e2)
/-- two dicts, the first one locked -/
theorem dictO_run (neg : Bool) (h : EqF X k C cs g) (hC : X.mg cn = some (.ref C)) (hcn : cn ∈ cs) (hp : PureM g) (hr : Room (k + 2) X.A) (I : Inv X pins σ H s) (W : Wd ⟨X.mg, X.K⟩ N c H st) {a b : Addr} {od : Obj} {kvs lvs : List (Key × V)} {vs us : List D}
    (ha : H a = some (.frz od (.dK kvs))) (na : a ∉ c) (nn : ¬ N a) (ra : RepL ⟨X.mg, X.K⟩ N c H (kvs.map (·.2)) vs) (rb : Rep ⟨X.mg, X.K⟩ N c H (.ref b) (.dic (lvs.map (·.1)) us)) (hk : kvs.map (·.1) = lvs.map (·.1)) (hn : (kvs.map (·.1)).Pairwise (· ≠ ·))
    (ea : all2 (itemO cn g st) vs us = true) {Q : Value → Shared → Prop}
    (fin : ∀ N' c' H' s', Ex N c H N' c' H' → Wd ⟨X.mg, X.K⟩ N' c' H' st → Inv X pins σ H' s' → Q (.bool (!neg)) s') :
    wpAny (model X.prog X.w) X.A (richCompare (if neg then .NotEq else .Eq) (.ref a) (.ref b)) Q X.xe s := by
  obtain ⟨heq, _, ya, va, ka, da⟩ := (show ObjOk X.prog X.w H s.heap a (.frz od (.dK kvs)) from I.hok a _ ha)
  have yb : (b == sysModules) = false := by
    obtain ⟨b', lvs', e, hb', _, _⟩ := RepT.dic (.inl rb)
    cases e
    obtain ⟨_, yb, _⟩ := (show ObjOk X.prog X.w H s.heap b (.dK lvs') from hb'.ok I.hok)
    exact yb
  let J : Nat → Shared → Prop := fun _ s' => ∃ N' c' H', Ex N c H N' c' H' ∧ Wd ⟨X.mg, X.K⟩ N' c' H' st ∧ Inv X pins σ H' s'
  have keep : ∀ i s', J i s' → s'.heap.get? a = s.heap.get? a := fun i s' ⟨N', c', H', x, W', I'⟩ => by
    have e := x.keep a _ ha na
    have := (show ObjOk X.prog X.w H' s'.heap a (.frz od (.dK kvs)) from I'.hok a _ e).1
    rw [this, heq]
  have lk : kvs.length = lvs.length := by
    have := congrArg List.length hk
    rwa [List.length_map, List.length_map] at this
  have item : ∀ i s', J i s' → ∃ kb, s'.heap.DictOf (mixKind X.prog X.w) b kb ∧ va.length = kb.length ∧ ∀ k v, va[i]? = some (k, v) → ∃ y, valueAt kb k = some y ∧
      ∀ R : Bool → Shared → Prop, (∀ s2, J (i + 1) s2 → R true s2) → wpAny (model X.prog X.w) X.A.in1 (eqBool v y) R X.xe s' := fun i s' ⟨N', c', H', x, W', I'⟩ => by
    have rb' := rb.tr (x.tr W)
    obtain ⟨b', lvs', e, hb', hm', r'⟩ := RepT.dic (.inl rb')
    cases e
    obtain ⟨_, _, vb, kb, db⟩ := (show ObjOk X.prog X.w H' s'.heap b (.dK lvs') from hb'.ok I'.hok)
    have hl' : lvs'.length = lvs.length := by
      have := congrArg List.length hm'
      rwa [List.length_map, List.length_map] at this
    refine ⟨vb, db, by rw [← ka.length, ← kb.length, hl', lk], fun k v e => ?_⟩
    have hi : i < va.length := (List.getElem?_eq_some_iff.mp e).1
    have hik : i < kvs.length := by rw [ka.length]; exact hi
    obtain ⟨p, hpk⟩ : ∃ p, kvs[i]? = some p := ⟨_, List.getElem?_eq_getElem hik⟩
    have hpv : p.1 = k ∧ RelV p.2 v := by
      exact paired_at ka hpk e
    obtain ⟨pk, pv⟩ := p
    obtain ⟨rfl, rpv⟩ := hpv
    have hk1 : (kvs.map (·.1))[i]? = some pk := by rw [List.getElem?_map, hpk]; rfl
    have hv1 : (kvs.map (·.2))[i]? = some pv := by rw [List.getElem?_map, hpk]; rfl
    have ra' := ra.tr (x.tr W)
    obtain ⟨dx, hdx, rdx⟩ := ra'.getV hv1
    have hil : i < lvs'.length := by omega
    obtain ⟨q, hql⟩ : ∃ q, lvs'[i]? = some q := ⟨_, List.getElem?_eq_getElem hil⟩
    have hv2 : (lvs'.map (·.2))[i]? = some q.2 := by rw [List.getElem?_map, hql]; rfl
    have hk2 : (lvs'.map (·.1))[i]? = some pk := by rw [hm', ← hk]; exact hk1
    obtain ⟨dy, hdy, rdy⟩ := r'.getV hv2
    have hval := val_at (by rw [hm', ← hk]; exact hn) hk2 hv2
    have rr : RelO (some q.2) (valueAt vb pk) := by rw [← hval]; exact kb.val pk
    obtain ⟨y, hy, ry⟩ := rr.some_of
    refine ⟨y, hy, fun R hR => ?_⟩
    refine itemO_run h hC hcn hp hr.in1 I' W' rdx rdy (all2_get ea hdx hdy) rpv ry fun N2 c2 H2 s2 x2 W2 I2 => hR s2 ⟨N2, c2, H2, x.trans x2 W, W2, I2⟩
  have j0 : J 0 s := ⟨N, c, H, Ex.refl, W, I⟩
  cases neg with
  | true => exact PySem.W.lw_dict_ne J ya yb da keep item j0 (by have := hr.un; omega) fun s' ⟨N', c', H', x, W', I'⟩ => fin N' c' H' s' x W' I'
  | false => exact PySem.W.lw_dict_eq J ya yb da keep item j0 (by have := hr.un; omega) fun s' ⟨N', c', H', x, W', I'⟩ => fin N' c' H' s' x W' I'
theorem Ex.unlock {a : Addr} {od : Obj} {kvs : List (Key × V)} {N' : Prot} {c' : List Addr} {H' : Hp} (ha : H a = some (.dK kvs)) (x : Ex N c (upd H a (.frz od (.dK kvs))) N' c' H') : Ex N c H N' c' (upd H' a (.dK kvs)) := by
  refine ⟨fun b o e nb => ?_, fun b z => ?_, x.mono, x.pre, fun b z => ?_⟩
  · by_cases z : b = a
    · subst z
      rw [ha] at e
      cases e
      exact upd_same
    · rw [upd_ne z]
      exact x.keep b o (by rw [upd_ne z]; exact e) nb
  · rcases x.new b z with y | y
    · exact .inl y
    · by_cases w : b = a
      · subst w; rw [upd_same] at y; cases y
      · rw [upd_ne w] at y; exact .inr y
  · rcases x.newc b z with y | y
    · exact .inl y
    · by_cases w : b = a
      · subst w; rw [upd_same] at y; cases y
      · rw [upd_ne w] at y; exact .inr y
/-- the dicts x, y are equal by their items -/
def rDO (mg : Glob) (cn : Str) (g : FM) (neg : Bool) : R2 := fun x y H Q => ∃ (N : Prot) (c : List Addr) (st : Sto) (ks : List Key) (vs us : List D), Wd mg N c H st ∧ Rep mg N c H x (.dic ks vs) ∧ Rep mg N c H y (.dic ks us) ∧ ks.Pairwise (· ≠ ·) ∧ all2 (itemO cn g st) vs us = true ∧
  ∀ N' c' H', Ex N c H N' c' H' → Wd mg N' c' H' st → Q (.bl (!neg)) H'
theorem op_DO (neg : Bool) (h : EqF X k C cs g) (hC : X.mg cn = some (.ref C)) (hcn : cn ∈ cs) (hp : PureM g) (hr : Room (k + 2) X.A) : OpR X (compareOp (if neg then .NotEq else .Eq)) (rDO ⟨X.mg, X.K⟩ cn g neg) := by
  intro pins s σ H x y v u Q I rx ry hq
  obtain ⟨N, c, st, ks, vs, us, W, r1, r2, hn, ea, q⟩ := hq
  obtain ⟨b, lvs, rfl, hb, rfl, _⟩ := RepT.dic (.inl r2)
  cases (show u = Value.ref b from ry)
  suffices sh : wpAny (model X.prog X.w) X.A (richCompare (if neg then .NotEq else .Eq) v (.ref b)) (EP X pins σ Q) X.xe s by cases neg <;> exact sh
  have main : ∀ {H : Hp} {a : Addr} {od : Obj} {kvs : List (Key × V)} (I : Inv X pins σ H s) (W : Wd ⟨X.mg, X.K⟩ N c H st) (ha : H a = some (.frz od (.dK kvs))) (n : ¬ N a) (hm : kvs.map (·.1) = lvs.map (·.1)) (r : RepL ⟨X.mg, X.K⟩ N c H (kvs.map (·.2)) vs)
      (r2 : Rep ⟨X.mg, X.K⟩ N c H (.ref b) (.dic (lvs.map (·.1)) us)) {Q : Value → Shared → Prop}
      (fin : ∀ N' c' H' s', Ex N c H N' c' H' → Wd ⟨X.mg, X.K⟩ N' c' H' st → Inv X pins σ H' s' → Q (.bool (!neg)) s'), wpAny (model X.prog X.w) X.A (richCompare (if neg then .NotEq else .Eq) (.ref a) (.ref b)) Q X.xe s :=
    fun I W ha n hm r r2 Q fin => dictO_run neg h hC hcn hp hr I W ha (fun z => n (W.cn _ z)) n r r2 hm (hm ▸ hn) ea fin
  cases r1 with
  | dfz ha n hm r =>
    rename_i a od kvs
    cases (show v = Value.ref a from rx)
    exact main I W ha n hm r r2 fun N' c' H' s' x W' I' => ⟨.bl (!neg), H', I', rfl, q N' c' H' x W'⟩
  | dic ha n hm r =>
    rename_i a kvs
    cases (show v = Value.ref a from rx)
    obtain ⟨od, I1⟩ := I.lock ha trivial
    have l : Lk N H (upd H a (.frz od (.dK kvs))) := lk_lock ha n
    refine main I1 (W.lk l) upd_same n hm (r.lk l) (r2.lk l) fun N' c' H' s' x W' I' => ?_
    have nc : a ∉ c := fun z => n (W.cn a z)
    have hf : H' a = some (.frz od (.dK kvs)) := x.keep a _ upd_same nc
    have n' : ¬ N' a := fun z => (x.new a z).elim n fun e => by rw [upd_same] at e; cases e
    exact ⟨.bl (!neg), _, I'.unlock hf (I.nofrz ha trivial), rfl, q N' c' _ (Ex.unlock ha x) (W'.lk (lk_unlock hf n'))⟩
end
def oDO (neg : Bool) (cn : Str) (g : FM) : D → D → Sto → Option D := fun x y st => match x, y with
  | .dic ks vs, .dic ls us => if decide (ks = ls) && decide (ks.Pairwise (· ≠ ·)) && all2 (itemO cn g st) vs us then some (.bl (!neg)) else none
  | _, _ => none
section
variable {X : Cx} {k : Nat} {C : Addr} {cs : List Str} {g : FM} {cn : Str} {a b : Expr} {pos : Pos} {fa fb : SE}
theorem ok_DO {mg : Glob} {neg : Bool} : OpOk mg (RE mg) (rDO mg cn g neg) (oDO neg cn g) := by
  intro N c H st u v x y d Q W p1 p2 e kk
  unfold oDO at e
  split at e
  · rename_i ks vs ls us
    split at e
    · rename_i hc
      cases e
      rw [Bool.and_eq_true, Bool.and_eq_true] at hc
      obtain ⟨⟨e1, e2⟩, e3⟩ := hc
      have e1 := of_decide_eq_true e1
      subst e1
      have r1 : Rep mg N c H u (.dic ks vs) := by
        rcases p1 with h | ⟨_, _, _, _, e, _⟩
        · exact h
        · cases e
      have r2 : Rep mg N c H v (.dic ks us) := by
        rcases p2 with h | ⟨_, _, _, _, e, _⟩
        · exact h
        · cases e
      exact ⟨N, c, st, ks, vs, us, W, r1, r2, of_decide_eq_true e2, e3, fun N' c' H' x W' => kk _ N' c' H' x W' (.bl _)⟩
    · cases e
  · cases e
theorem d_neDO (h : EqF X k C cs g) (hC : X.mg cn = some (.ref C)) (hp : PureM g) (hr : Room (k + 2) X.A) (ha : PE X a (tP ⟨X.mg, X.K⟩ fa)) (hb : PE X b (tP ⟨X.mg, X.K⟩ fb)) (hcn : cn ∈ cs := by decide) :
    PE X (.Compare a [.NotEq] [b] pos) (tE ⟨X.mg, X.K⟩ (eOp (oDO true cn g) fa fb)) := d_cmp (op_DO true h hC hcn hp hr) ok_DO back_E ha hb (nomark _)
theorem d_eqDO (h : EqF X k C cs g) (hC : X.mg cn = some (.ref C)) (hp : PureM g) (hr : Room (k + 2) X.A) (ha : PE X a (tP ⟨X.mg, X.K⟩ fa)) (hb : PE X b (tP ⟨X.mg, X.K⟩ fb)) (hcn : cn ∈ cs := by decide) :
    PE X (.Compare a [.Eq] [b] pos) (tE ⟨X.mg, X.K⟩ (eOp (oDO false cn g) fa fb)) := d_cmp (op_DO false h hC hcn hp hr) ok_DO back_E ha hb (nomark _)
end
end LW

/-! LwZc: for over the keys of a dict; a, b = {}, {}; list * int. -/
namespace LW
open PySem L2 PyProof.Rows
section
variable {mg : Glob} {N N' : Prot} {c c' : List Addr} {H H' : Hp} {st st' : Sto} {E : En} {env env' : Env} {σ σ' : L2.St} {a : Addr} {od : Obj} {kvs : List (Key × V)}
/-- the entry as seen while the dict at a is locked -/
def En.lk (E : En) (a : Addr) (o : HO) : En := ⟨upd E.H0 a o, E.N0, E.c0, E.self⟩
theorem Rel.lockS (R : Rel mg E N c env st σ H) (h : H a = some (.dK kvs)) (n : ¬ N a) : Rel mg (E.lk a (.frz od (.dK kvs))) N c env st σ (upd H a (.frz od (.dK kvs))) := by
  have l : Lk N H (upd H a (.frz od (.dK kvs))) := lk_lock h n
  refine ⟨R.len, fun i s e => ?_, fun i s b e ho es => ?_, R.inj, R.wd.lk l, R.n0, fun b z q => ?_, fun b o e nc => ?_, R.pre, fun b z => ?_, R.slf⟩
  · have q := R.sl i s e
    have own : ∀ b, s.isOwn = true → σ[i]?.join = some (.ref b) → b ≠ a := fun b ho es z => n (z ▸ (R.own i s b e ho (join_some es)).1)
    cases s with
    | un => trivial
    | val d => obtain ⟨v, ev, rv⟩ := q; exact ⟨v, ev, rv.lk l⟩
    | own ys => obtain ⟨b, us, ev, hb, rv⟩ := q; exact ⟨b, us, ev, by rw [upd_ne (own b rfl ev)]; exact hb, rv.lk l⟩
    | ownI cn ns ds => obtain ⟨b, C, dx, fs, ev, hc, hb, hn, rv⟩ := q; exact ⟨b, C, dx, fs, ev, hc, by rw [upd_ne (own b rfl ev)]; exact hb, hn, rv.lk l⟩
    | ownD ks ds => obtain ⟨b, kvs', ev, hb, hn, rv⟩ := q; exact ⟨b, kvs', ev, by rw [upd_ne (own b rfl ev)]; exact hb, hn, rv.lk l⟩
  · obtain ⟨z1, z2, z3⟩ := R.own i s b e ho es
    have ne : b ≠ a := fun z => n (z ▸ z1)
    exact ⟨z1, z2, by show upd E.H0 a _ b = none; rw [upd_ne ne]; exact z3⟩
  · have q : upd E.H0 a _ b = none := q
    by_cases z' : b = a
    · subst z'; rw [upd_same] at q; cases q
    · rw [upd_ne z'] at q; exact R.t0 b z q
  · have e : upd E.H0 a _ b = some o := e
    by_cases z : b = a
    · subst z
      rw [upd_same] at e ⊢
      exact e
    · rw [upd_ne z] at e ⊢
      exact R.base b o e nc
  · have nb : b ≠ a := fun q => n (q ▸ R.wd.cn b z)
    show _ ∨ upd E.H0 a _ b = none
    rw [upd_ne nb]
    exact R.newc b z
/-- what the entry's heap says of a dict that stands here -/
theorem Rel.at0 (R : Rel mg E N c env st σ H) (h : H a = some (.dK kvs)) (n : ¬ N a) {o : HO} (e : E.H0 a = some o) : o = .dK kvs := by
  have := R.base a o e fun z => n (R.wd.cn a z)
  rw [h] at this
  cases this
  rfl
theorem Rel.unlockS (R : Rel mg E N c env st σ H) (h : H a = some (.dK kvs)) (n : ¬ N a) (R' : Rel mg (E.lk a (.frz od (.dK kvs))) N' c' env' st' σ' H') (hf : H' a = some (.frz od (.dK kvs))) (n' : ¬ N' a) : Rel mg E N' c' env' st' σ' (upd H' a (.dK kvs)) := by
  have l : Lk N' H' (upd H' a (.dK kvs)) := lk_unlock hf n'
  refine ⟨R'.len, fun i s e => ?_, fun i s b e ho es => ?_, R'.inj, R'.wd.lk l, R'.n0, R.t0, fun b o e nc => ?_, R'.pre, fun b z => ?_, R'.slf⟩
  · have q := R'.sl i s e
    have own : ∀ b, s.isOwn = true → σ'[i]?.join = some (.ref b) → b ≠ a := fun b ho es z => n' (z ▸ (R'.own i s b e ho (join_some es)).1)
    cases s with
    | un => trivial
    | val d => obtain ⟨v, ev, rv⟩ := q; exact ⟨v, ev, rv.lk l⟩
    | own ys => obtain ⟨b, us, ev, hb, rv⟩ := q; exact ⟨b, us, ev, by rw [upd_ne (own b rfl ev)]; exact hb, rv.lk l⟩
    | ownI cn ns ds => obtain ⟨b, C, dx, fs, ev, hc, hb, hn, rv⟩ := q; exact ⟨b, C, dx, fs, ev, hc, by rw [upd_ne (own b rfl ev)]; exact hb, hn, rv.lk l⟩
    | ownD ks ds => obtain ⟨b, kvs', ev, hb, hn, rv⟩ := q; exact ⟨b, kvs', ev, by rw [upd_ne (own b rfl ev)]; exact hb, hn, rv.lk l⟩
  · obtain ⟨z1, z2, z3⟩ := R'.own i s b e ho es
    have ne : b ≠ a := fun z => n' (z ▸ z1)
    have z3 : upd E.H0 a _ b = none := z3
    rw [upd_ne ne] at z3
    exact ⟨z1, z2, z3⟩
  · by_cases z : b = a
    · subst z
      rw [upd_same, R.at0 h n e]
    · rw [upd_ne z]
      refine R'.base b o ?_ nc
      show upd E.H0 a _ b = some o
      rw [upd_ne z]
      exact e
  · have nb : b ≠ a := fun q => n' (q ▸ R'.wd.cn b z)
    have := R'.newc b z
    have this : _ ∨ upd E.H0 a _ b = none := this
    rw [upd_ne nb] at this
    exact this
theorem Sx.unlock (ha : H a = some (.dK kvs)) (n : ¬ N a) (x : Sx N c (upd H a (.frz od (.dK kvs))) N' c' H') : Sx N c H N' c' (upd H' a (.dK kvs)) := by
  refine ⟨fun b o e nb => ?_, fun b z => ?_, x.pre, fun b z => ?_, fun b e => ?_⟩
  · by_cases z : b = a
    · subst z
      rw [ha] at e
      cases e
      exact upd_same
    · rw [upd_ne z]
      exact x.keep b o (by rw [upd_ne z]; exact e) nb
  · rcases x.new b z with y | y
    · exact .inl y
    · by_cases w : b = a
      · subst w; rw [upd_same] at y; cases y
      · rw [upd_ne w] at y; exact .inr y
  · rcases x.newc b z with y | y
    · exact .inl y
    · by_cases w : b = a
      · subst w; rw [upd_same] at y; cases y
      · rw [upd_ne w] at y; exact .inr y
  · by_cases w : b = a
    · subst w; rw [upd_same] at e; cases e
    · rw [upd_ne w] at e
      have := x.trk b e
      rwa [upd_ne w] at this
theorem Fin.unlock {v : V} {d : D} (R : Rel mg E N c env st σ H) (h : H a = some (.dK kvs)) (n : ¬ N a) (F : Fin mg (E.lk a (.frz od (.dK kvs))) c' st' H' v d) : H' a = some (.frz od (.dK kvs)) ∧ Fin mg E c' st' (upd H' a (.dK kvs)) v d := by
  have nc : a ∉ c' := fun z => by
    rcases F.newc a z with q | q
    · obtain ⟨k, hk⟩ := List.getElem?_of_mem (show a ∈ E.c0 from q)
      exact n (R.wd.cn a (List.mem_of_getElem? (R.pre k a hk)))
    · have q : upd E.H0 a _ a = none := q
      rw [upd_same] at q; cases q
  have hf : H' a = some (.frz od (.dK kvs)) := F.base a _ upd_same nc
  have n' : ¬ (E.N0 a ∨ a ∈ c') := fun z => z.elim (fun q => n (R.n0 a q)) nc
  have l : Lk (fun a => E.N0 a ∨ a ∈ c') H' (upd H' a (.dK kvs)) := lk_unlock hf n'
  refine ⟨hf, F.wd.lk l, F.rep.lk l, fun b o e nb => ?_, F.pre, fun b z => ?_⟩
  · by_cases z : b = a
    · subst z
      rw [upd_same, R.at0 h n e]
    · rw [upd_ne z]
      refine F.base b o ?_ nb
      show upd E.H0 a _ b = some o
      rw [upd_ne z]
      exact e
  · have nb : b ≠ a := fun q => nc (q ▸ z)
    have this : _ ∨ upd E.H0 a _ b = none := F.newc b z
    rw [upd_ne nb] at this
    exact this
end
section
variable {mg : Glob} {X : Cx} {tg : Expr} {body : List Stmt} {pos : Pos} {fb : SS} {asg : D → Env → Option Env} {g : TG} {is : List Nat}
theorem ps_lockOr {s : Stmt} {t : TS} (h : PS X s t) : PS X s (fun D σ H => tLock t D σ H ∨ t D σ H) := ⟨fun pins s σ H D I q => q.elim (fun z => (ps_lock h).run pins s σ H D I z) fun z => h.run pins s σ H D I z⟩
theorem r_forK {i : Nat} (hg : GOk mg g asg is) {De : Ends} {σ : L2.St} {H : Hp} (h : tS mg (sFor (iKy i) asg fb) De σ H) : tLock (tFor (tIK mg i) g (tS mg fb)) De σ H ∨ tFor (tIK mg i) g (tS mg fb) De σ H := by
  have h0 := h
  obtain ⟨E, N, c, env, st, o, st', R, q, p⟩ := tS_def.mp h
  have q0 := q
  unfold sFor iKy at q
  split at q
  · cases q
  · rename_i src s1 q1
    split at q1
    · rename_i ks ds he
      obtain ⟨v, ev, rv⟩ := R.sl i _ he
      have ev := join_some ev
      cases rv with
      | dfz ha n hn r => exact .inr ⟨r_for (fi := iKy i) hg h0, _, _, _, ev, ha⟩
      | dic ha n hn r =>
        rename_i a kvs _
        refine .inl ⟨a, .dK kvs, ha, trivial, fun od => ⟨r_for (fi := iKy i) hg ?_, a, od, kvs, ev, upd_same⟩⟩
        have R' := R.lockS (od := od) ha n
        have step : ∀ N' c' H', Sx N c (upd H a (.frz od (.dK kvs))) N' c' H' → H' a = some (.frz od (.dK kvs)) ∧ ¬ N' a := fun N' c' H' x => ⟨x.keep a _ upd_same n, x.nn upd_same n⟩
        refine tS_def.mpr ⟨_, N, c, env, st, o, st', R', q0, ?_⟩
        cases o with
        | nx e => exact fun N' c' σ' H' x R2 => ⟨(step _ _ _ x).1, p N' c' σ' _ (Sx.unlock ha n x) (R.unlockS ha n R2 (step _ _ _ x).1 (step _ _ _ x).2)⟩
        | bk e => exact fun N' c' σ' H' x R2 => ⟨(step _ _ _ x).1, p N' c' σ' _ (Sx.unlock ha n x) (R.unlockS ha n R2 (step _ _ _ x).1 (step _ _ _ x).2)⟩
        | ct e => exact fun N' c' σ' H' x R2 => ⟨(step _ _ _ x).1, p N' c' σ' _ (Sx.unlock ha n x) (R.unlockS ha n R2 (step _ _ _ x).1 (step _ _ _ x).2)⟩
        | rt d =>
          intro c' H' v F
          obtain ⟨hf, F'⟩ := F.unlock R ha n
          exact ⟨hf, p c' _ v F'⟩
    · cases q1
/-- for name in d -/
theorem s_forK (i : Nat) {x : Str} {p : Pos} (hp : PassesOwn (model X.prog X.w) X.A X.env X.xe) (hc : X.calm = true) (hgg : PG X tg g) (hg : GOk mg g asg is) (hb : PSs X body (tS mg fb)) (hN : X.N[i]? = some x := by rfl) (hv : Vis X.env.scope x := by first | exact Or.inl rfl | exact Or.inr (Or.inl rfl) | exact Or.inr (Or.inr rfl)) (hd : (x == ("__debug__" : Str)) = false := by decide)
    (hcd : (x == ("__classdict__" : Str)) = false := by decide) (hs : ∀ y, foldedSetIterable (.Name x p) X.env y = pure y := by intro _; rfl) :
    PS X (.For tg (.Name x p) body [] pos) (tS mg (sFor (iKy i) asg fb)) := ps_weak (ps_lockOr (ps_for hp hc (i_keys i hN hv hd hcd) hgg hb hs)) fun De σ H h => r_forK hg h
end
/-! ### a, b = two new things -/
def RK2 (mg : Glob) : Told Sl := fun N c H N' c' H' v s => match s with
  | .val d => Rep mg N' c' H' v d
  | .own xs => ∃ p vs, v = .ref p ∧ H p = none ∧ N' p ∧ p ∉ c' ∧ H' p = some (.lst vs) ∧ RepL mg N' c' H' vs xs
  | .ownD ks ds => RD mg N c H N' c' H' v (ks, ds)
  | _ => False
def kV2 (f : SE) : Fx Sl := fun env st => match f env st with
  | some (d, s1) => some (.val d, s1)
  | none => none
def kL2 (f : Fx (List D)) : Fx Sl := fun env st => match f env st with
  | some (d, s1) => some (.own d, s1)
  | none => none
def kD2 (f : Fx DK) : Fx Sl := fun env st => match f env st with
  | some (d, s1) => some (.ownD d.1 d.2, s1)
  | none => none
def sPar2 (i j : Nat) (a b : Fx Sl) : SS := fun env st => match a env st with
  | some (x, s1) => match b env s1 with
    | some (y, s2) => if i = j then none else some (.nx ((env.set i x).set j y), s2)
    | none => none
  | none => none
section
variable {mg : Glob} {X : Cx} {e a b : Expr} {pos : Pos} {fe : SE} {fl : Fx (List D)} {fd : Fx DK} {fa fb : Fx Sl}
theorem k2_val (h : PE X e (tE mg fe)) : PE X e (tX mg (RK2 mg) (kV2 fe)) := pe_weak h fun σ H Q ⟨E, N, c, env, st, d, st', R, q, k⟩ => by
  unfold kV2 at q
  split at q
  · rename_i d0 s1 q1
    cases q
    exact ⟨E, N, c, env, st, d0, _, R, q1, fun v N' c' H' x W r => k v N' c' H' x W r⟩
  · cases q
theorem k2_own (h : PE X e (tL mg fl)) : PE X e (tX mg (RK2 mg) (kL2 fl)) := pe_weak h fun σ H Q ⟨E, N, c, env, st, d, st', R, q, k⟩ => by
  unfold kL2 at q
  split at q
  · rename_i d0 s1 q1
    cases q
    exact ⟨E, N, c, env, st, d0, _, R, q1, fun v N' c' H' x W r => k v N' c' H' x W r⟩
  · cases q
theorem k2_ownD (h : PE X e (tD mg fd)) : PE X e (tX mg (RK2 mg) (kD2 fd)) := pe_weak h fun σ H Q ⟨E, N, c, env, st, d, st', R, q, k⟩ => by
  unfold kD2 at q
  split at q
  · rename_i d0 s1 q1
    cases q
    exact ⟨E, N, c, env, st, d0, _, R, q1, fun v N' c' H' x W r => k v N' c' H' x W r⟩
  · cases q
theorem Rel.setK2 {E : En} {N N1 N2 : Prot} {c c1 c2 : List Addr} {H H1 H2 : Hp} {st st1 st2 : Sto} {env env' : Env} {σ σ' : L2.St} {i : Nat} {v : V} {s : Sl} (R : Rel mg E N c env st σ H) (W1 : Wd mg N1 c1 H1 st1) (x2 : Ex N1 c1 H1 N2 c2 H2) (R2 : Rel mg E N2 c2 env' st2 σ' H2)
    (r : RK2 mg N c H N1 c1 H1 v s) (hw : ∀ p, H p = none → ∀ (j : Nat) s, env'[j]? = some s → s.isOwn = true → σ'[j]? ≠ some (some (.ref p))) : Rel mg E N2 c2 (env'.set i s) st2 (σ'.set i (some v)) H2 := by
  cases s with
  | un => exact r.elim
  | val d => exact R2.set (s := .val d) rfl ⟨v, rfl, Rep.tr (x2.tr W1) (show Rep mg N1 c1 H1 v d from r)⟩
  | own xs =>
    obtain ⟨p, vs, rfl, hp, np, nc, hv, rr⟩ := r
    exact R2.setOwn (x2.keep p _ hv nc) (x2.mono p np) (x2.nc W1 hv nc) (R.fresh0 hp) (rr.tr (x2.tr W1)) (hw p hp)
  | ownI cn ns ds => exact r.elim
  | ownD ks ds =>
    obtain ⟨p, kvs, rfl, hp, np, nc, hv, hm, rr⟩ := r
    exact R2.setOwnD (x2.keep p _ hv nc) (x2.mono p np) (x2.nc W1 hv nc) (R.fresh0 hp) hm (rr.tr (x2.tr W1)) (hw p hp)
theorem s_par2 {i j : Nat} {x y : Str} {px py pt : Pos} {kt k2 pt2} (hN : X.N.Nodup) (ha : PE X a (tX mg (RK2 mg) fa)) (hb : PE X b (tX mg (RK2 mg) fb)) (hc : X.calm = true := by rfl) (hi : X.N[i]? = some x := by rfl) (hj : X.N[j]? = some y := by rfl) (hij : i ≠ j := by decide)
    (hx : X.env.scope.names.lookup x = some .local := by rfl) (hy : X.env.scope.names.lookup y = some .local := by rfl)
    (hw : swappedStores [.Tuple [.Name x px, .Name y py] kt pt] (.Tuple [a, b] k2 pt2) X.env = pure (some [x, y]) := by rfl)
    (hs : swapsWithSole [.Tuple [.Name x px, .Name y py] kt pt] (.Tuple [a, b] k2 pt2) pos.line X.env = pure false := by rfl)
    (h1 : starEach [a, b] X.env = (false, eval a X.env) :: starEach [b] X.env := by rfl) (h2 : starEach [b] X.env = (false, eval b X.env) :: starEach [] X.env := by rfl) :
    PS X (.Assign [.Tuple [.Name x px, .Name y py] kt pt] (.Tuple [a, b] k2 pt2) pos) (tS mg (sPar2 i j fa fb)) :=
  ps_weak (ps_par hc hN hi hj hij hx hy (pa_cons ha (pa_cons hb pa_nil h2) h1) hw hs) fun De σ H h => by
    obtain ⟨E, N, c, env, st, o, st', R, q, p⟩ := tS_def.mp h
    unfold sPar2 at q
    split at q
    · rename_i s1 st1 q1
      split at q
      · rename_i s2 st2 q2
        split at q
        · cases q
        · cases q
          refine ⟨E, N, c, env, st, s1, st1, R, q1, fun v N1 c1 H1 x1 W1 r1 => ?_⟩
          refine ⟨E, N1, c1, env, st1, s2, _, R.ex x1 W1, q2, fun u N2 c2 H2 x2 W2 r2 => ?_⟩
          refine ⟨v, u, rfl, ?_⟩
          have x12 := x1.trans x2 R.wd
          have R2 := R.ex x12 W2
          have nw1 : ∀ p, H p = none → ∀ (j : Nat) s, env[j]? = some s → s.isOwn = true → σ[j]? ≠ some (some (.ref p)) := fun p hp => R.notOwn hp
          have Ra := Rel.setK2 (i := i) R W1 x2 R2 r1 nw1
          have R1 := R.ex x1 W1
          have nw2 : ∀ p, H1 p = none → ∀ (m : Nat) s, (env.set i s1)[m]? = some s → s.isOwn = true → (σ.set i (some v))[m]? ≠ some (some (.ref p)) := fun p hp m s e ho z => by
            rcases get_set e with ⟨rfl, rfl⟩ | ⟨ne, e⟩
            · have hl : i < σ.length := by
                rw [R.len]
                have := (List.getElem?_eq_some_iff.mp e).1
                simpa using this
              rw [List.getElem?_set_self hl] at z
              cases z
              cases s with
              | own xs =>
                obtain ⟨p', vs, ep, _, _, _, hv, _⟩ := r1
                cases ep
                rw [hp] at hv; cases hv
              | ownD ks ds =>
                obtain ⟨p', vs, ep, _, _, _, hv, _⟩ := r1
                cases ep
                rw [hp] at hv; cases hv
              | un => cases ho
              | val d => cases ho
              | ownI cn ns ds => exact r1.elim
            · rw [List.getElem?_set_ne ne] at z
              exact R1.notOwn hp m s e ho z
          have Rb := Rel.setK2 (i := j) R1 W2 Ex.refl Ra r2 nw2
          exact p N2 c2 _ H2 (x12.sx R.wd W2) Rb
      · cases q
    · cases q
end
/-! ### list * int -/
def oRep : D → D → Sto → Option (List D) := fun x y st => match lstM st x, y with
  | some xs, .int k => if decide (-(2 ^ 62) < k) && decide (k < 2 ^ 62) && decide (xs.length * k.toNat ≤ 1000000) then some (List.replicate k.toNat xs).flatten else none
  | _, _ => none
section
variable {mg : Glob} {N : Prot} {c : List Addr} {H : Hp} {X : Cx} {a b : Expr} {pos : Pos} {fa fb : SE}
theorem RepL.rep {vs : List V} {ds : List D} (r : RepL mg N c H vs ds) : ∀ n : Nat, RepL mg N c H (List.replicate n vs).flatten (List.replicate n ds).flatten
  | 0 => .nil
  | n + 1 => by
    rw [List.replicate_succ, List.replicate_succ, List.flatten_cons, List.flatten_cons]
    exact r.append (RepL.rep r n)
theorem ok_rep : OpOk mg (RN mg) rRep oRep := by
  intro N c H st u v x y d Q W p1 p2 e k
  unfold oRep at e
  split at e
  · rename_i xs i e1
    split at e
    · rename_i hl
      cases e
      rw [Bool.and_eq_true, Bool.and_eq_true] at hl
      obtain ⟨⟨h1, h2⟩, h3⟩ := hl
      have h1 := of_decide_eq_true h1
      have h2 := of_decide_eq_true h2
      have h3 := of_decide_eq_true h3
      obtain ⟨a, vs, rfl, ha, r1⟩ := RepT.lst W p1 e1
      refine ⟨a, i, vs, rfl, p2.int, ha, by omega, by omega, sz6 (by rw [r1.length]; exact h3), fun p hp => ?_⟩
      exact k _ _ _ _ (Ex.laidN W hp) (W.laidN hp) (RN.laid W hp (r1.rep _))
    · cases e
  · cases e
theorem d_rep (ha : PE X a (tP mg fa)) (hb : PE X b (tP mg fb)) : PE X (.BinOp a .Mult b pos) (tL mg (eOp oRep fa fb)) := d_bin op_rep ok_rep back_N ha hb
end
end LW

/-! LwZd: {k: v for .. in .. if ..}. -/
namespace LW
open PySem L2 PyProof.Rows
section
variable {mg : Glob}
/-- a protected thing that nobody else holds changes -/
theorem Rel.growO {E : En} {N : Prot} {c : List Addr} {env : Env} {st : Sto} {σ : L2.St} {H : Hp} {p : Addr} {o : HO} (R : Rel mg E N c env st σ H) (np : N p) (nc : p ∉ c) (h0 : E.H0 p = none) (hp : H p ≠ none) (nw : ∀ (j : Nat) s, env[j]? = some s → s.isOwn = true → σ[j]? ≠ some (some (.ref p))) :
    Rel mg E N c env st σ (upd H p o) ∧ Sx N c H N c (upd H p o) := by
  have keep : ∀ b u, H b = some u → ¬ N b → (upd H p o) b = some u := fun b u e n => by
    rw [upd_ne (show b ≠ p from fun z => n (z ▸ np))]; exact e
  have tk : ∀ b, (upd H p o) b = none → H b = none := fun b e => by
    by_cases q : b = p
    · rw [q, upd_same] at e; cases e
    · rw [upd_ne q] at e; exact e
  have sx : Sx N c H N c (upd H p o) := ⟨keep, fun _ z => .inl z, fun _ _ z => z, fun _ z => .inl z, tk⟩
  refine ⟨⟨R.len, fun j s' e => ?_, R.own, R.inj, ?_, R.n0, R.t0, fun b u e n => ?_, R.pre, R.newc, R.slf⟩, sx⟩
  · have q := R.sl j s' e
    cases s' with
    | un => trivial
    | val d => obtain ⟨v, ev, rv⟩ := q; exact ⟨v, ev, rv.tr sx.tr⟩
    | own ys =>
      obtain ⟨b, us', ev, hb', rv⟩ := q
      have : b ≠ p := fun z => nw j _ e rfl (by rw [← z]; exact join_some ev)
      exact ⟨b, us', ev, by rw [upd_ne this]; exact hb', rv.tr sx.tr⟩
    | ownI cn ns ds =>
      obtain ⟨b, C, dx, fs, ev, hc, hb', hn, rv⟩ := q
      have : b ≠ p := fun z => nw j _ e rfl (by rw [← z]; exact join_some ev)
      exact ⟨b, C, dx, fs, ev, hc, by rw [upd_ne this]; exact hb', hn, rv.tr sx.tr⟩
    | ownD ks ds =>
      obtain ⟨b, kvs, ev, hb', hn, rv⟩ := q
      have : b ≠ p := fun z => nw j _ e rfl (by rw [← z]; exact join_some ev)
      exact ⟨b, kvs, ev, by rw [upd_ne this]; exact hb', hn, rv.tr sx.tr⟩
  · exact ⟨R.wd.len, fun k b ys h1 h2 => by
      obtain ⟨us', hb', rr⟩ := R.wd.sto k b ys h1 h2
      exact ⟨us', by rw [upd_ne (show b ≠ p from fun z => nc (z ▸ List.mem_of_getElem? h1))]; exact hb', rr.tr sx.tr⟩, R.wd.cn, R.wd.nd, fun b z e => R.wd.trk b z (tk b e)⟩
  · have : b ≠ p := fun z => by rw [z, h0] at e; cases e
    rw [upd_ne this]
    exact R.base b u e n
end
def dcM (chk : Sto → Bool) (asg : D → Env → Option Env) (cond : SB) (fk fv : SE) (env0 : Env) : List D → DK → Sto → Option (DK × Sto)
  | [], acc, st => if chk st = true then some (acc, st) else none
  | d :: ds, acc, st => if chk st = true then (match asg d env0 with
    | none => none
    | some e1 => match cond e1 st with
      | none => none
      | some (false, s1) => dcM chk asg cond fk fv env0 ds acc s1
      | some (true, s1) => match fk e1 s1 with
        | none => none
        | some (y, s2) => match fv e1 s2 with
          | none => none
          | some (z, s3) => match keyD y with
            | none => none
            | some k => dcM chk asg cond fk fv env0 ds (putKD acc k z) s3) else none
def dComp (fi : Fx Src) (asg : D → Env → Option Env) (cond : SB) (fk fv : SE) (vs : List Nat) : Fx DK := fun env st => match fi env st with
  | none => none
  | some (xs, s1) => if xs.1.length ≤ 1000000 then dcM xs.2 asg cond fk fv (wipeE env vs) xs.1 ([], []) s1 else none
theorem putKD_len {acc : DK} {k : Key} {z : D} : (putKD acc k z).1.length ≤ acc.1.length + 1 := by
  unfold putKD
  split
  · exact Nat.le_succ _
  · show (acc.1 ++ [k]).length ≤ _
    rw [List.length_append]
    exact Nat.le_refl _
section
variable {mg : Glob} {fi : Fx Src} {asg : D → Env → Option Env} {cond : SB} {fk fv : SE} {g : TG} {is vs : List Nat}
theorem r_dc (hg : GOk mg g asg is) (hv : ∀ i ∈ is, i ∈ vs) {σ : L2.St} {H : Hp} {Q : VK} (h : tD mg (dComp fi asg cond fk fv vs) σ H Q) : tDc (tI mg fi) g (tT mg cond) (tE mg fk) (tE mg fv) vs σ H Q := by
  obtain ⟨E, N, c, env, st, d, st', R, q, k⟩ := h
  unfold dComp at q
  split at q
  · cases q
  · rename_i src s1 q1
    obtain ⟨xs, chk⟩ := src
    split at q
    · rename_i hl
      have hl : xs.length ≤ 1000000 := hl
      refine ⟨E, N, c, env, st, (xs, chk), s1, R, q1, fun J N1 c1 H1 x1 W1 il => fun p hp => ?_⟩
      have R1 := R.ex x1 W1
      have x2 := Ex.laidN (o := .dK []) W1 hp
      have W2 := W1.laidN (o := .dK []) hp
      have h0 : E.H0 p = none := R1.fresh0 hp
      have hpH : H p = none := x1.free R.wd W1 hp
      have nw := (R1.wipe vs).notOwn hp
      refine ⟨fun i m H' => m = xs.length - i ∧ i ≤ xs.length ∧ ∃ N' c' st2 ad kvs, Ex N c H N' c' H' ∧ Sx N1 c1 H1 N' c' H' ∧ Rel mg E N' c' (wipeE env vs) st2 (L2.wipe σ vs) H' ∧ N' p ∧ p ∉ c' ∧ H' p = some (.dK kvs) ∧ kvs.map (·.1) = ad.1 ∧ RepL mg N' c' H' (kvs.map (·.2)) ad.2 ∧ ad.1.length ≤ i ∧
        dcM chk asg cond fk fv (wipeE env vs) (xs.drop i) ad st2 = some (d, st'),
        ⟨xs.length, by omega, Nat.zero_le _, _, c1, s1, ([], []), [], x1.trans x2 R.wd, x2.sx W1 W2, (R1.ex x2 W2).wipe vs, .inr rfl, W1.cnone hp, upd_same, rfl, .nil, Nat.zero_le _, by rw [List.drop_zero]; exact q⟩, ?_⟩
      rintro i m H' ⟨rfl, hi, N', c', st2, ad, kvs, ex, sx, R', np, nc, hpv, hm, ra, la, ql⟩
      by_cases hlt : i < xs.length
      · have ed0 : xs.drop i = xs[i] :: xs.drop (i + 1) := List.drop_eq_getElem_cons hlt
        rw [ed0] at ql
        unfold dcM at ql
        split at ql
        · rename_i hck
          refine .inr ⟨il.go i N' c' H' st2 hlt sx R'.wd hck, fun H3 => ∃ N' c' st2 ad kvs, Ex N c H N' c' H3 ∧ Sx N1 c1 H1 N' c' H3 ∧ Rel mg E N' c' (wipeE env vs) st2 (L2.wipe σ vs) H3 ∧ N' p ∧ p ∉ c' ∧ H3 p = some (.dK kvs) ∧ kvs.map (·.1) = ad.1 ∧ RepL mg N' c' H3 (kvs.map (·.2)) ad.2 ∧ ad.1.length ≤ i + 1 ∧
            dcM chk asg cond fk fv (wipeE env vs) (xs.drop (i + 1)) ad st2 = some (d, st'), fun H3 z => ⟨xs.length - (i + 1), by omega, rfl, hlt, z⟩, fun x H2 y => ?_⟩
          obtain ⟨d0, hd0, x3, W3, r3⟩ := il.yld i N' c' H' st2 x H2 hlt sx R'.wd hck y
          have ed2 : xs[i] = d0 := by
            obtain ⟨_, e⟩ := List.getElem?_eq_some_iff.mp hd0
            exact e
          rw [ed2] at ql
          split at ql
          · cases ql
          · rename_i e1 ha
            have R3 := R'.ex x3 W3
            refine hg E N' c' _ e1 st2 _ H2 x d0 _ R3 r3 ha fun σ4 R4 df => ⟨by rw [df vs hv]; exact wipe_idem fun _ z => z, ?_⟩
            split at ql
            · cases ql
            · rename_i sA qc
              refine ⟨E, N', c', e1, st2, false, sA, R4, qc, fun N5 c5 H5 x5 W5 => iteF ?_⟩
              have x35 := x3.trans x5 R'.wd
              exact ⟨N5, c5, sA, ad, kvs, ex.trans x35 R.wd, sx.trans (x35.sx R'.wd W5), R3.ex x5 W5, x5.mono p np, x35.nc R'.wd hpv nc, x35.keep p _ hpv nc, hm, ra.tr (x35.tr R'.wd), Nat.le_succ_of_le la, ql⟩
            · rename_i sA qc
              split at ql
              · cases ql
              · rename_i y1 sB qe
                split at ql
                · cases ql
                · rename_i z1 sC qz
                  split at ql
                  · cases ql
                  · rename_i kk hk
                    refine ⟨E, N', c', e1, st2, true, sA, R4, qc, fun N5 c5 H5 x5 W5 => iteT ?_⟩
                    have R5 := R4.ex x5 W5
                    refine ⟨E, N5, c5, e1, sA, y1, sB, R5, qe, fun w N6 c6 H6 x6 W6 r6 => ?_⟩
                    refine ⟨E, N6, c6, e1, sB, z1, sC, R5.ex x6 W6, qz, fun u N7 c7 H7 x7 W7 r7 => ?_⟩
                    have x37 := ((x3.trans x5 R'.wd).trans x6 R'.wd).trans x7 R'.wd
                    have hp7 := x37.keep p _ hpv nc
                    have nc7 := x37.nc R'.wd hpv nc
                    have np7 := x37.mono p np
                    have ra7 := ra.tr (x37.tr R'.wd)
                    have ln : kvs.length = ad.1.length := by rw [← hm, List.length_map]
                    obtain ⟨m1, m2⟩ := put_rel (k := kk) r7 ra7
                    rw [hm] at m1 m2
                    refine ⟨kvs, kk, RepT.key (.inl r6) hk, hp7, sz7 (by omega), ?_⟩
                    have R7 : Rel mg E N7 c7 (wipeE env vs) sC (L2.wipe σ vs) H7 := R'.ex x37 W7
                    obtain ⟨Rg, sg⟩ := R7.growO (o := .dK (putK kvs kk u)) np7 nc7 h0 (by rw [hp7]; simp) nw
                    have exT := ex.trans x37 R.wd
                    refine ⟨N7, c7, sC, putKD ad kk z1, putK kvs kk u, ⟨fun a o e n => ?_, exT.new, exT.mono, exT.pre, exT.newc⟩, (sx.trans (x37.sx R'.wd W7)).trans sg, Rg, np7, nc7, upd_same, m1, m2.tr sg.tr, Nat.le_trans putKD_len (Nat.succ_le_succ la), ql⟩
                    rw [upd_ne (ne_of_none e hpH)]
                    exact exT.keep a o e n
        · cases ql
      · have e : i = xs.length := by omega
        subst e
        rw [List.drop_length] at ql
        unfold dcM at ql
        split at ql
        · rename_i hck
          cases ql
          exact .inl ⟨il.stop N' c' H' _ sx R'.wd hck, k _ N' c' H' ex R'.wd ⟨p, kvs, rfl, hpH, np, nc, hpv, hm, ra⟩⟩
        · cases ql
    · cases q
variable {X : Cx} {kx vx tg iter : Expr} {ifs : List Expr} {scope : Scope} {own : List (Str × Nat)} {pos : Pos}
/-- {k: v for target in iter if ..} -/
theorem d_dc (hc : X.calm = true) (hN : X.N.Nodup) (hi : PI X tg iter (tI mg fi)) (ok : BlkOk X.N X.env.scope scope own)
    (hgg : ∀ (s : Shared) (H : Hp) (C : Addr) (cl : List (Str × Addr)) (fp : List Addr), PG (X.blk s H scope (compEnvC scope cl C X.env) fp) tg g) (hg : GOk mg g asg is) (hv : ∀ i ∈ is, i ∈ own.map (·.2))
    (ht : ∀ (s : Shared) (H : Hp) (C : Addr) (cl : List (Str × Addr)) (fp : List Addr), PTs (X.blk s H scope (compEnvC scope cl C X.env) fp) ifs (tT mg cond))
    (hk : ∀ (s : Shared) (H : Hp) (C : Addr) (cl : List (Str × Addr)) (fp : List Addr), PE (X.blk s H scope (compEnvC scope cl C X.env) fp) kx (tE mg fk))
    (he : ∀ (s : Shared) (H : Hp) (C : Addr) (cl : List (Str × Addr)) (fp : List Addr), PE (X.blk s H scope (compEnvC scope cl C X.env) fp) vx (tE mg fv)) (hs : ∀ x, foldedSetIterable iter X.env x = pure x := by intro _; rfl) :
    PE X (.DictComp kx vx [⟨tg, iter, ifs, 0⟩] scope pos) (tD mg (dComp fi asg cond fk fv (own.map (·.2)))) :=
  pe_weak (pe_dc hc hN hi ok hgg ht hk he hs) fun _ _ _ h => r_dc hg hv h
/-- over the keys of a dict -/
theorem r_dcK (hg : GOk mg g asg is) (hv : ∀ i ∈ is, i ∈ own.map (·.2)) {i : Nat} {σ : L2.St} {H : Hp} {Q : VK} (h : tD mg (dComp (iKy i) asg cond fk fv (own.map (·.2))) σ H Q) :
    tLockE (tDc (tIK mg i) g (tT mg cond) (tE mg fk) (tE mg fv) (own.map (·.2))) σ H Q ∨ tDc (tIK mg i) g (tT mg cond) (tE mg fk) (tE mg fv) (own.map (·.2)) σ H Q := by
  obtain ⟨E, N, c, env, st, d, st', R, q, k⟩ := h
  have q0 := q
  unfold dComp iKy at q
  split at q
  · cases q
  · rename_i src s1 q1
    split at q1
    · rename_i ks ds he
      obtain ⟨v, ev, rv⟩ := R.sl i _ he
      have ev := join_some ev
      cases rv with
      | dfz ha n hn r => exact .inr ⟨r_dc (fi := iKy i) hg hv ⟨E, N, c, env, st, d, st', R, q0, k⟩, _, _, _, ev, ha⟩
      | dic ha n hn r =>
        rename_i a kvs _
        refine .inl ⟨a, .dK kvs, ha, trivial, fun od => ⟨?_, a, od, kvs, ev, upd_same⟩⟩
        obtain ⟨E', R'⟩ := R.lock (od := od) ha n
        show tDc (tI mg (iKy i)) g (tT mg cond) (tE mg fk) (tE mg fv) (own.map (·.2)) σ _ (fun v H' => H' a = some (.frz od (.dK kvs)) ∧ Q v (upd H' a (.dK kvs)))
        refine r_dc (fi := iKy i) hg hv ⟨E', N, c, env, st, d, st', R', q0, fun v N' c' H' x W' rn => ?_⟩
        have nc : a ∉ c := fun z => n (R.wd.cn a z)
        have hf : H' a = some (.frz od (.dK kvs)) := x.keep a _ upd_same nc
        have n' : ¬ N' a := fun z => (x.new a z).elim n fun e => by rw [upd_same] at e; cases e
        have l : Lk N' H' (upd H' a (.dK kvs)) := lk_unlock hf n'
        refine ⟨hf, k v N' c' (upd H' a (.dK kvs)) (Ex.unlock ha x) (W'.lk l) ?_⟩
        obtain ⟨p, kvs', rfl, hp, np, nc', hv', hm', rr⟩ := rn
        have hpa : p ≠ a := fun z => by rw [z, hf] at hv'; cases hv'
        exact ⟨p, kvs', rfl, by rw [upd_ne hpa] at hp; exact hp, np, nc', by rw [upd_ne hpa]; exact hv', hm', rr.lk l⟩
    · cases q1
theorem d_dcK (i : Nat) {x : Str} {p : Pos} (hc : X.calm = true) (hN : X.N.Nodup) (ok : BlkOk X.N X.env.scope scope own)
    (hgg : ∀ (s : Shared) (H : Hp) (C : Addr) (cl : List (Str × Addr)) (fp : List Addr), PG (X.blk s H scope (compEnvC scope cl C X.env) fp) tg g) (hg : GOk mg g asg is) (hv : ∀ i ∈ is, i ∈ own.map (·.2))
    (ht : ∀ (s : Shared) (H : Hp) (C : Addr) (cl : List (Str × Addr)) (fp : List Addr), PTs (X.blk s H scope (compEnvC scope cl C X.env) fp) ifs (tT mg cond))
    (hk : ∀ (s : Shared) (H : Hp) (C : Addr) (cl : List (Str × Addr)) (fp : List Addr), PE (X.blk s H scope (compEnvC scope cl C X.env) fp) kx (tE mg fk))
    (he : ∀ (s : Shared) (H : Hp) (C : Addr) (cl : List (Str × Addr)) (fp : List Addr), PE (X.blk s H scope (compEnvC scope cl C X.env) fp) vx (tE mg fv))
    (hx : X.N[i]? = some x := by rfl) (hvs : Vis X.env.scope x := by first | exact Or.inl rfl | exact Or.inr (Or.inl rfl) | exact Or.inr (Or.inr rfl)) (hd : (x == ("__debug__" : Str)) = false := by decide)
    (hcd : (x == ("__classdict__" : Str)) = false := by decide) (hs : ∀ y, foldedSetIterable (.Name x p) X.env y = pure y := by intro _; rfl) :
    PE X (.DictComp kx vx [⟨tg, .Name x p, ifs, 0⟩] scope pos) (tD mg (dComp (iKy i) asg cond fk fv (own.map (·.2)))) :=
  pe_weak (pe_lockOr (pe_dc hc hN (i_keys i hx hvs hd hcd) ok hgg ht hk he hs)) fun _ _ _ h => r_dcK hg hv h
end
/-! ### how mirrors run -/
section
variable {chk : Sto → Bool} {asg : D → Env → Option Env} {cond : SB} {fk fv : SE} {env0 e1 : Env} {st : Sto} {fi : Fx Src} {vs : List Nat} {QK : DK → Sto → Prop}
theorem z_dComp (h : Ok (fi env0 st) fun xs s1 => xs.1.length ≤ 1000000 ∧ Ok (dcM xs.2 asg cond fk fv (wipeE env0 vs) xs.1 ([], []) s1) QK) : Ok (dComp fi asg cond fk fv vs env0 st) QK := by
  obtain ⟨x, s1, e1, hl, h⟩ := h
  obtain ⟨a, s, e, q⟩ := h
  exact ⟨a, s, by unfold dComp; rw [e1]; dsimp only; rw [if_pos hl, e], q⟩
/-- over all, in their order -/
theorem dc_all {α : Type} (gx : α → D) (gk : α → Key) (gv : α → D) (hc : chk st = true) (Z : List α) : ∀ (acc : DK), (∀ z ∈ Z, ∃ e1, asg (gx z) env0 = some e1 ∧ Ok (fk e1 st) (fun y s => keyD y = some (gk z) ∧ s = st) ∧ Ok (fv e1 st) fun y s => y = gv z ∧ s = st) →
    dcM chk asg bYes fk fv env0 (Z.map gx) acc st = some (mergeD acc (Z.map fun z => (gk z, gv z)), st) := by
  induction Z with
  | nil =>
    intro acc _
    show (if chk st = true then _ else _) = _
    rw [if_pos hc]
    rfl
  | cons z Z ih =>
    intro acc h
    obtain ⟨e1, ha, ⟨y, s1, ey, hk, es⟩, ⟨w, s2, ew, hw, es2⟩⟩ := h z (by simp)
    rw [es] at ey
    rw [es2, hw] at ew
    have ih := ih (putKD acc (gk z) (gv z)) fun z' hz' => h z' (by simp [hz'])
    rw [List.map_cons, List.map_cons]
    unfold dcM
    rw [if_pos hc, ha]
    dsimp only [bYes]
    rw [ey]
    dsimp only
    rw [ew]
    dsimp only
    rw [hk]
    exact ih
end
end LW

/-! LwZe: [e for .. in .. if .. for .. in .. if ..]. -/
namespace LW
open PySem L2 PyProof.Rows
/-- a target names data only -/
def AsgOk (asg : D → Env → Option Env) (is : List Nat) : Prop := ∀ d env e1, asg d env = some e1 → ∀ (j : Nat) s, e1[j]? = some s → s.isOwn = true → env[j]? = some s ∧ j ∉ is
theorem asg_name (i : Nat) : AsgOk (asgN i) [i] := fun d env e1 h j s e ho => by
  cases h
  rcases get_set e with ⟨rfl, rfl⟩ | ⟨ne, e⟩
  · cases ho
  · exact ⟨e, fun z => ne (List.mem_singleton.mp z).symm⟩
theorem asg_all : ∀ (is : List Nat) (ds : List D) (env e1 : Env), setAll is ds env = some e1 → ∀ (j : Nat) s, e1[j]? = some s → s.isOwn = true → env[j]? = some s ∧ j ∉ is
  | [], [], env, e1, h, j, s, e, ho => by cases h; exact ⟨e, fun z => by cases z⟩
  | i :: is, d :: ds, env, e1, h, j, s, e, ho => by
    obtain ⟨e2, n⟩ := asg_all is ds _ e1 h j s e ho
    rcases get_set e2 with ⟨rfl, rfl⟩ | ⟨ne, e3⟩
    · cases ho
    · exact ⟨e3, fun z => (List.mem_cons.mp z).elim (fun q => ne q.symm) n⟩
  | [], _ :: _, _, _, h, _, _, _, _ => by cases h
  | _ :: _, [], _, _, h, _, _, _, _ => by cases h
theorem asg_tup (is : List Nat) : AsgOk (asgT is) is := fun d env e1 h j s e ho => by
  unfold asgT at h
  split at h
  · exact asg_all is _ env e1 h j s e ho
  · cases h
theorem wipe_at {σ : L2.St} {j : Nat} : ∀ {vs : List Nat}, j ∉ vs → (L2.wipe σ vs)[j]? = σ[j]?
  | [], _ => rfl
  | v :: vs, h => by
    unfold L2.wipe
    rw [List.getElem?_set_ne (fun z => h (by rw [z]; exact List.mem_cons_self)), wipe_at fun z => h (List.mem_cons_of_mem _ z)]
theorem wipeE_own {env : Env} {j : Nat} {s : Sl} : ∀ {vs : List Nat}, (wipeE env vs)[j]? = some s → s.isOwn = true → env[j]? = some s ∧ j ∉ vs
  | [], h, _ => ⟨h, fun z => by cases z⟩
  | v :: vs, h, ho => by
    unfold wipeE at h
    rcases get_set h with ⟨rfl, rfl⟩ | ⟨ne, h⟩
    · cases ho
    · obtain ⟨a, b⟩ := wipeE_own h ho
      exact ⟨a, fun z => (List.mem_cons.mp z).elim (fun q => ne q.symm) b⟩
def comp2M (chk : Sto → Bool) (asg : D → Env → Option Env) (cond : SB) (fi2 : Fx Src) (asg2 : D → Env → Option Env) (cond2 : SB) (elt : SE) (vs2 : List Nat) (env0 : Env) : List D → Sto → Option (List D × Sto)
  | [], st => if chk st = true then some ([], st) else none
  | d :: ds, st => if chk st = true then (match asg d env0 with
    | none => none
    | some e1 => match cond e1 st with
      | none => none
      | some (false, s1) => comp2M chk asg cond fi2 asg2 cond2 elt vs2 env0 ds s1
      | some (true, s1) => match fi2 e1 s1 with
        | none => none
        | some (src, s2) => match compM src.2 asg2 cond2 elt (wipeE e1 vs2) src.1 s2 with
          | none => none
          | some (ys, s3) => match comp2M chk asg cond fi2 asg2 cond2 elt vs2 env0 ds s3 with
            | none => none
            | some (zs, s4) => some (ys ++ zs, s4)) else none
def lComp2 (fi : Fx Src) (asg : D → Env → Option Env) (cond : SB) (fi2 : Fx Src) (asg2 : D → Env → Option Env) (cond2 : SB) (elt : SE) (vs vs2 : List Nat) : Fx (List D) := fun env st => match fi env st with
  | none => none
  | some (xs, s1) => match comp2M xs.2 asg cond fi2 asg2 cond2 elt vs2 (wipeE env vs) xs.1 s1 with
    | none => none
    | some (ys, s2) => if ys.length ≤ 1000000 then some (ys, s2) else none
section
variable {mg : Glob} {fi fi2 : Fx Src} {asg asg2 : D → Env → Option Env} {cond cond2 : SB} {elt : SE} {g g2 : TG} {is is2 vs vs2 : List Nat}
theorem r_lc2 (hg : GOk mg g asg is) (hv : ∀ i ∈ is, i ∈ vs) (hao : AsgOk asg is) (hg2 : GOk mg g2 asg2 is2) (hv2 : ∀ i ∈ is2, i ∈ vs2) {σ : L2.St} {H : Hp} {Q : VK} (h : tL mg (lComp2 fi asg cond fi2 asg2 cond2 elt vs vs2) σ H Q) :
    tLc2 (tI mg fi) g (tT mg cond) (tI mg fi2) g2 (tT mg cond2) (tE mg elt) vs vs2 σ H Q := by
  obtain ⟨E, N, c, env, st, d, st', R, q, k⟩ := h
  unfold lComp2 at q
  split at q
  · cases q
  · rename_i src s1 q1
    obtain ⟨xs, chk⟩ := src
    split at q
    · cases q
    · rename_i ys0 st'' qc0
      split at q
      · rename_i hl
        cases q
        refine ⟨E, N, c, env, st, (xs, chk), s1, R, q1, fun J N1 c1 H1 x1 W1 il => fun p hp => ?_⟩
        have R1 := R.ex x1 W1
        have x2 := Ex.laidN (o := .lst []) W1 hp
        have W2 := W1.laidN (o := .lst []) hp
        have h0 : E.H0 p = none := R1.fresh0 hp
        have hpH : H p = none := x1.free R.wd W1 hp
        have nw := (R1.wipe vs).notOwn hp
        -- what stands at each turn
        let St : Hp → Prot → List Addr → Sto → List D → List V → Prop := fun H' N' c' st2 accD accV => Ex N c H N' c' H' ∧ Sx N1 c1 H1 N' c' H' ∧ Rel mg E N' c' (wipeE env vs) st2 (L2.wipe σ vs) H' ∧ N' p ∧ p ∉ c' ∧ H' p = some (.lst accV) ∧ RepL mg N' c' H' accV accD
        refine ⟨fun i m H' => m = xs.length - i ∧ i ≤ xs.length ∧ ∃ N' c' st2 accD accV ys, St H' N' c' st2 accD accV ∧ comp2M chk asg cond fi2 asg2 cond2 elt vs2 (wipeE env vs) (xs.drop i) st2 = some (ys, st') ∧ accD ++ ys = d,
          ⟨xs.length, by omega, Nat.zero_le _, _, c1, s1, [], [], d, ⟨x1.trans x2 R.wd, x2.sx W1 W2, (R1.ex x2 W2).wipe vs, .inr rfl, W1.cnone hp, upd_same, .nil⟩, by rw [List.drop_zero]; exact qc0, rfl⟩, ?_⟩
        rintro i m H' ⟨rfl, hi, N', c', st2, accD, accV, ys, ⟨ex, sx, R', np, nc, hpv, ra⟩, ql, ed⟩
        by_cases hlt : i < xs.length
        · have ed0 : xs.drop i = xs[i] :: xs.drop (i + 1) := List.drop_eq_getElem_cons hlt
          rw [ed0] at ql
          unfold comp2M at ql
          split at ql
          · rename_i hck
            refine .inr ⟨il.go i N' c' H' st2 hlt sx R'.wd hck, fun H3 => ∃ N' c' st2 accD accV ys, St H3 N' c' st2 accD accV ∧ comp2M chk asg cond fi2 asg2 cond2 elt vs2 (wipeE env vs) (xs.drop (i + 1)) st2 = some (ys, st') ∧ accD ++ ys = d,
              fun H3 z => ⟨xs.length - (i + 1), by omega, rfl, hlt, z⟩, fun x H2 y => ?_⟩
            obtain ⟨d0, hd0, x3, W3, r3⟩ := il.yld i N' c' H' st2 x H2 hlt sx R'.wd hck y
            have ed2 : xs[i] = d0 := by
              obtain ⟨_, e⟩ := List.getElem?_eq_some_iff.mp hd0
              exact e
            rw [ed2] at ql
            split at ql
            · cases ql
            · rename_i e1 ha
              have R3 := R'.ex x3 W3
              refine hg E N' c' _ e1 st2 _ H2 x d0 _ R3 r3 ha fun σ4 R4 df => ⟨by rw [df vs hv]; exact wipe_idem fun _ z => z, ?_⟩
              split at ql
              · cases ql
              · rename_i sA qc
                refine ⟨E, N', c', e1, st2, false, sA, R4, qc, fun N5 c5 H5 x5 W5 => iteF ?_⟩
                have x35 := x3.trans x5 R'.wd
                exact ⟨N5, c5, sA, accD, accV, ys, ⟨ex.trans x35 R.wd, sx.trans (x35.sx R'.wd W5), R3.ex x5 W5, x5.mono p np, x35.nc R'.wd hpv nc, x35.keep p _ hpv nc, ra.tr (x35.tr R'.wd)⟩, ql, ed⟩
              · rename_i sA qc
                split at ql
                · cases ql
                · rename_i src2 sB q2
                  obtain ⟨xs2, chk2⟩ := src2
                  split at ql
                  · cases ql
                  · rename_i ysI sC qI
                    split at ql
                    · cases ql
                    · rename_i zs s4 qR
                      cases ql
                      refine ⟨E, N', c', e1, st2, true, sA, R4, qc, fun N5 c5 H5 x5 W5 => iteT ?_⟩
                      have R5 := R4.ex x5 W5
                      refine ⟨E, N5, c5, e1, sA, (xs2, chk2), sB, R5, q2, fun J1 N6 c6 H6 x6 W6 il2 => ?_⟩
                      have x36 := (x3.trans x5 R'.wd).trans x6 R'.wd
                      have R6 := R5.ex x6 W6
                      have hp6 := x36.keep p _ hpv nc
                      have nc6 := x36.nc R'.wd hpv nc
                      have np6 := x36.mono p np
                      have nw2 : ∀ (j : Nat) s, (wipeE e1 vs2)[j]? = some s → s.isOwn = true → (L2.wipe σ4 vs2)[j]? ≠ some (some (.ref p)) := fun j s e ho z => by
                        obtain ⟨a1, a2⟩ := wipeE_own e ho
                        rw [wipe_at a2] at z
                        obtain ⟨b1, b2⟩ := hao d0 _ e1 ha j s a1 ho
                        have dd := congrArg (fun (s : L2.St) => s[j]?) (df is fun _ z => z)
                        have dd : (L2.wipe σ4 is)[j]? = (L2.wipe (L2.wipe σ vs) is)[j]? := dd
                        rw [wipe_at b2, wipe_at b2] at dd
                        exact nw j s b1 ho (by rw [← dd]; exact z)
                      let St2 : Hp → Prot → List Addr → Sto → List D → List V → Prop := fun H' N' c' st2 accD accV => St H' N' c' st2 accD accV ∧ Sx N6 c6 H6 N' c' H' ∧ Rel mg E N' c' (wipeE e1 vs2) st2 (L2.wipe σ4 vs2) H'
                      refine ⟨fun j m H' => m = xs2.length - j ∧ j ≤ xs2.length ∧ ∃ N' c' st2 accD accV ys2, St2 H' N' c' st2 accD accV ∧ compM chk2 asg2 cond2 elt (wipeE e1 vs2) (xs2.drop j) st2 = some (ys2, sC) ∧ accD ++ (ys2 ++ zs) = d,
                        ⟨xs2.length, by omega, Nat.zero_le _, N6, c6, sB, accD, accV, ysI, ⟨⟨ex.trans x36 R.wd, sx.trans (x36.sx R'.wd W6), R'.ex x36 W6, np6, nc6, hp6, ra.tr (x36.tr R'.wd)⟩, Sx.refl, R6.wipe vs2⟩, by rw [List.drop_zero]; exact qI, ed⟩, ?_⟩
                      rintro j m2 H7 ⟨rfl, hj, N7, c7, s7, aD, aV, ys2, ⟨⟨ex7, sx7, Ro, np7, nc7, hp7, ra7⟩, sx67, Ri⟩, qj, ed7⟩
                      by_cases hlt2 : j < xs2.length
                      · have ej0 : xs2.drop j = xs2[j] :: xs2.drop (j + 1) := List.drop_eq_getElem_cons hlt2
                        rw [ej0] at qj
                        unfold compM at qj
                        split at qj
                        · rename_i hck2
                          refine .inr ⟨il2.go j N7 c7 H7 s7 hlt2 sx67 Ri.wd hck2, fun H3 => ∃ N' c' st2 accD accV ys2, St2 H3 N' c' st2 accD accV ∧ compM chk2 asg2 cond2 elt (wipeE e1 vs2) (xs2.drop (j + 1)) st2 = some (ys2, sC) ∧ accD ++ (ys2 ++ zs) = d,
                            fun H3 z => ⟨xs2.length - (j + 1), by omega, rfl, hlt2, z⟩, fun x' H8 y' => ?_⟩
                          obtain ⟨d8, hd8, x8, W8, r8⟩ := il2.yld j N7 c7 H7 s7 x' H8 hlt2 sx67 Ri.wd hck2 y'
                          have ed8 : xs2[j] = d8 := by
                            obtain ⟨_, e⟩ := List.getElem?_eq_some_iff.mp hd8
                            exact e
                          rw [ed8] at qj
                          split at qj
                          · cases qj
                          · rename_i e8 ha8
                            have R8 := Ri.ex x8 W8
                            refine hg2 E N7 c7 _ e8 s7 _ H8 x' d8 _ R8 r8 ha8 fun σ9 R9 df9 => ⟨by rw [df9 vs2 hv2]; exact wipe_idem fun _ z => z, ?_⟩
                            split at qj
                            · cases qj
                            · rename_i sD qd
                              refine ⟨E, N7, c7, e8, s7, false, sD, R9, qd, fun N9 c9 H9 x9 W9 => iteF ?_⟩
                              have x89 := x8.trans x9 Ri.wd
                              exact ⟨N9, c9, sD, aD, aV, ys2, ⟨⟨ex7.trans x89 R.wd, sx7.trans (x89.sx Ro.wd W9), Ro.ex x89 W9, x89.mono p np7, x89.nc Ro.wd hp7 nc7, x89.keep p _ hp7 nc7, ra7.tr (x89.tr Ro.wd)⟩, sx67.trans (x89.sx Ri.wd W9), Ri.ex x89 W9⟩, qj, ed7⟩
                            · rename_i sD qd
                              split at qj
                              · cases qj
                              · rename_i y1 sE qe
                                split at qj
                                · cases qj
                                · rename_i ys1 s5 qr
                                  cases qj
                                  refine ⟨E, N7, c7, e8, s7, true, sD, R9, qd, fun N9 c9 H9 x9 W9 => iteT ?_⟩
                                  refine ⟨E, N9, c9, e8, sD, y1, sE, R9.ex x9 W9, qe, fun w Na ca Ha xa Wa ra' => ?_⟩
                                  have x8a := (x8.trans x9 Ri.wd).trans xa Ri.wd
                                  have hpa := x8a.keep p _ hp7 nc7
                                  have nca := x8a.nc Ro.wd hp7 nc7
                                  have npa := x8a.mono p np7
                                  have raa := ra7.tr (x8a.tr Ro.wd)
                                  have ln := raa.length
                                  have le : aD.length < d.length := by
                                    have := congrArg List.length ed7
                                    rw [List.length_append, List.cons_append, List.length_cons] at this
                                    omega
                                  refine ⟨aV, hpa, sz7 (by omega), ?_⟩
                                  have Roa := Ro.ex x8a Wa
                                  have Ria := Ri.ex x8a Wa
                                  obtain ⟨Rg, sg⟩ := Roa.grow (us := aV ++ [w]) npa nca h0 (by rw [hpa]; simp) nw
                                  obtain ⟨Rg2, _⟩ := Ria.grow (us := aV ++ [w]) npa nca h0 (by rw [hpa]; simp) nw2
                                  have exT := ex7.trans x8a R.wd
                                  refine ⟨Na, ca, sE, aD ++ [y1], aV ++ [w], ys1, ⟨⟨⟨fun a o e n => ?_, exT.new, exT.mono, exT.pre, exT.newc⟩, (sx7.trans (x8a.sx Ro.wd Wa)).trans sg, Rg, npa, nca, upd_same, (raa.append (.cons ra' .nil)).tr sg.tr⟩, (sx67.trans (x8a.sx Ri.wd Wa)).trans sg, Rg2⟩, qr, by rw [List.append_assoc]; exact ed7⟩
                                  rw [upd_ne (ne_of_none e hpH)]
                                  exact exT.keep a o e n
                        · cases qj
                      · have e : j = xs2.length := by omega
                        subst e
                        rw [List.drop_length] at qj
                        unfold compM at qj
                        split at qj
                        · rename_i hck2
                          cases qj
                          exact .inl ⟨il2.stop N7 c7 H7 _ sx67 Ri.wd hck2, N7, c7, _, aD, aV, zs, ⟨ex7, sx7, Ro, np7, nc7, hp7, ra7⟩, qR, ed7⟩
                        · cases qj
          · cases ql
        · have e : i = xs.length := by omega
          subst e
          rw [List.drop_length] at ql
          unfold comp2M at ql
          split at ql
          · rename_i hck
            cases ql
            rw [List.append_nil] at ed
            subst ed
            exact .inl ⟨il.stop N' c' H' _ sx R'.wd hck, k _ N' c' H' ex R'.wd ⟨p, accV, rfl, hpH, np, nc, hpv, ra⟩⟩
          · cases ql
      · cases q
variable {X : Cx} {eltE tg iter tg1 iter1 : Expr} {ifs ifs1 : List Expr} {scope : Scope} {own : List (Str × Nat)} {pos : Pos}
theorem d_lc2 (hc : X.calm = true) (hN : X.N.Nodup) (hi : PI X tg iter (tI mg fi)) (ok : BlkOk X.N X.env.scope scope own)
    (hgg : ∀ (s : Shared) (H : Hp) (C : Addr) (cl : List (Str × Addr)) (fp : List Addr), PG (X.blk s H scope (compEnvC scope cl C X.env) fp) tg g) (hg : GOk mg g asg is) (hao : AsgOk asg is) (hv : ∀ i ∈ is, i ∈ own.map (·.2))
    (ht : ∀ (s : Shared) (H : Hp) (C : Addr) (cl : List (Str × Addr)) (fp : List Addr), PTs (X.blk s H scope (compEnvC scope cl C X.env) fp) ifs (tT mg cond))
    (hi1 : ∀ (s : Shared) (H : Hp) (C : Addr) (cl : List (Str × Addr)) (fp : List Addr), PI (X.blk s H scope (compEnvC scope cl C X.env) fp) tg1 iter1 (tI mg fi2))
    (hgg1 : ∀ (s : Shared) (H : Hp) (C : Addr) (cl : List (Str × Addr)) (fp : List Addr), PG (X.blk s H scope (compEnvC scope cl C X.env) fp) tg1 g2) (hg1 : GOk mg g2 asg2 is2) (hv1 : ∀ i ∈ is2, i ∈ vs2) (hvv : ∀ i ∈ vs2, i ∈ own.map (·.2))
    (ht1 : ∀ (s : Shared) (H : Hp) (C : Addr) (cl : List (Str × Addr)) (fp : List Addr), PTs (X.blk s H scope (compEnvC scope cl C X.env) fp) ifs1 (tT mg cond2))
    (he : ∀ (s : Shared) (H : Hp) (C : Addr) (cl : List (Str × Addr)) (fp : List Addr), PE (X.blk s H scope (compEnvC scope cl C X.env) fp) eltE (tE mg elt)) (hs : ∀ x, foldedSetIterable iter X.env x = pure x := by intro _; rfl) (hs1 : ∀ env x, foldedSetIterable iter1 env x = pure x := by intro _ _; rfl) :
    PE X (.ListComp eltE [⟨tg, iter, ifs, 0⟩, ⟨tg1, iter1, ifs1, 0⟩] scope pos) (tL mg (lComp2 fi asg cond fi2 asg2 cond2 elt (own.map (·.2)) vs2)) :=
  pe_weak (pe_lc2 hc hN hi ok hvv hgg ht hi1 hgg1 ht1 he hs hs1) fun _ _ _ h => r_lc2 hg hv hao hg1 hv1 h
end
end LW

/-! LwEa: exception classes of the form: def __init__(self, value=None): super().__init__(); self.value = value (turned from a worked proof with an own error). -/
namespace PySem
namespace LeafX
open PySem.W PySem.Calls PyProof.Rows PySem.HandSPX
/-! ### the text of __init__ -/
structure Ps where
  (p1 p2 p3 a1 a2 a3 a4 b1 b2 b3 b4 : Pos)
def iA (p : Ps) : Arguments := { posonlyargs := [], args := [{ arg := "self", annotation := none, pos := p.p1 }, { arg := "value", annotation := none, pos := p.p2 }], vararg := none, kwonlyargs := [], kw_defaults := [], kwarg := none, defaults := [.Constant .none 0 p.p3] }
def iB (p : Ps) : List Stmt := [.Expr (.Call (.Attribute (.Call (.Name "super" p.a1) [] [] p.a2) "__init__" p.a3) [] [] p.a4) p.a4, .Assign [.Attribute (.Name "self" p.b1) "value" p.b2] (.Name "value" p.b3) p.b4]
def iS : Scope := { kind := .function, names := [(PySem.Str.ofString "self", .local), (PySem.Str.ofString "value", .local), (PySem.Str.ofString "__class__", .free), (PySem.Str.ofString "super", .globalImplicit)], isGenerator := false, isCoroutine := false, more := [] }
/-- what the written part says of the class at C and of its __init__ at fI -/
structure LeafTxt (P : Program) (K : Frag) (C fI : Addr) (qual : Str) : Prop where
  cls : ∃ nm q N bs bm sn sub ab col dd k0 k1 k2 k3 k5, K.lookup C = some (excClassObj nm q C N bs bm true sn sub ab col dd k0 k1 k2 k3 k5 "ValueError.__new__") ∧ refsVE bm = true ∧ alongIn K "__init__" bm = some (some (.builtin "ValueError.__init__"))
  sa : findIn K (.ref C) "__setattr__" = some (some (.builtin "object.__setattr__"))
  noN : findIn K (.ref C) "value" = some none
  iC : findIn K (.ref C) "__init__" = some (some (.ref fI))
  tC : typeIn K (.ref fI) = some (.type "function")
  exC : subIn K (.ref C) (.type "BaseException") = some true
  mro : mroIn K C (.ref C) = some true
  vaC : subIn K (.ref C) (.type "ValueError") = some true
  tyC : typeIn K (.ref C) = some (.type "type")
  opq : nsIn K cStatics "thirdparty.any" = some none
  fn : ∃ (oc T : Value) (od : Option Addr) (kV doc pm ct : Value) (an : Option Addr) (osl : Array (Option Value)) (p : Ps) (cc cda : Addr) (oT : Addr) (ot : Obj) (it : Value) (nt : Nat) (vs : Array Value) (file : Str) (tf : Tok)
      (ccl cl : Value) (cdd cld : Option Addr) (ccs csl : Array (Option Value)),
    K.lookup fI = some ⟨oc, od, .func (fnX "__init__" qual (iA p) (iB p) iS [("__class__", cc)] (.ref oT) kV doc pm an (.ref cda) ct), osl⟩ ∧ codeIn K (.ref cda) qual = true ∧
    K.lookup oT = some ot ∧ ot.data = .seq #[it] nt ∧ it = .none ∧
    K.lookup cda = some ⟨ccl, cdd, .fields vs, ccs⟩ ∧ vs[2]? = some (.str file tf) ∧ ((P.main.file : Str) == file) = true ∧
    K.lookup cc = some ⟨cl, cld, .cell (some (.ref C)), csl⟩ ∧ (p.a3.endLine == p.a4.line) = true
  top : (P.main.scope.names.lookup ("super" : Str)).isSome = false
theorem ev_super (env : Env) (p1 p2 p3 p4 : Pos) (h : (p3.endLine == p4.line) = true) : eval (.Call (.Attribute (.Call (.Name "super" p1) [] [] p2) "__init__" p3) [] [] p4) env = (do
      let ov ← attributeBase (.Call (.Name "super" p1) [] [] p2) "__init__" env (eval (.Call (.Name "super" p1) [] [] p2) env)
      standAt p3.atName
      let (f, first) ← holding [ov] (getMethod ov "__init__" (do return (← importBound (.Call (.Name "super" p1) [] [] p2) env).getD true))
      callWith p4 f first (backTo p4 (starEach [] env)) []) := by
  have e : ∀ o, methodCallPos true o env p3 p4 = pure p4 := fun o => by
    unfold methodCallPos
    rw [h] <;> rfl
  have m : ∀ ov, methodCall (.Call (.Name "super" p1) [] [] p2) "__init__" p3 p4 env ov 0 (backTo p4 (starEach [] env)) [] = (do
      let (f, first) ← holding [ov] (getMethod ov "__init__" (do return (← importBound (.Call (.Name "super" p1) [] [] p2) env).getD true))
      callWith p4 f first (backTo p4 (starEach [] env)) []) := fun ov => by
    unfold methodCall
    show (do
      let (f, first) ← holding [ov] (getMethod ov "__init__" (do return (← importBound (.Call (.Name "super" p1) [] [] p2) env).getD true))
      let callPos ← methodCallPos true _ env p3 p4
      callWith callPos f first (backTo p4 (starEach [] env)) []) = _
    simp only [e, pure_bind]
  show (do
      let ov ← attributeBase (.Call (.Name "super" p1) [] [] p2) "__init__" env (eval (.Call (.Name "super" p1) [] [] p2) env)
      standAt p3.atName
      methodCall (.Call (.Name "super" p1) [] [] p2) "__init__" p3 p4 env ov 0 (backTo p4 (starEach [] env)) []) = _
  simp only [m]
theorem ldC {M : Model} {s : Shared} {env : Env} {m : Str → Option Value} {x : Str} {pos : Pos} {v : Value} {Q : Value → Shared → Prop} {A : Around} {E : Value → Shared → Prop} (hn : s.heap.Ns env.locals m) (hv : m x = some v) (h : Q v s)
    (hk : env.scope.kind = .function) (hl : env.kindOf x = some .local) (hd : (x == ("__debug__" : Str)) = false := by decide) :
    wpAny M A (eval (.Name x pos) env) Q E s := wpAny_Name (wpAny_loadName_local hk hl hn hv h) hd
/-- what __init__ leaves of a fresh exception at x -/
structure InitEnd (h h' : Heap) (x C dx t1 : Addr) (v : Value) : Prop where
  keep : ∀ b o, b ≠ x → h.get? b = some o → h'.get? b = some o
  obj : h'.get? x = some { cls := .ref C, dict := some dx, data := .fields #[.ref t1, .none, .none, .none, .bool false, .none] }
  dbig : h.objs.size ≤ dx
  dne : dx ≠ x
  ns : h'.Ns1 dx (fun y => if y = "value" then some v else none)
section
variable {prog : Program} {w : World} {A : Around} {E : Value → Shared → Prop} {R : Result → Shared → Prop} {s : Shared} {K : Frag} {mg mb : Str → Option Value} {C fI : Addr} {qual : Str}
theorem leaf_init (T : LeafTxt prog K C fI qual) {x t0 : Addr} {v : Value} (X : K.In s.heap) (G : s.heap.Ns mainGlobals mg) (hsup : mg "super" = none) (B : s.heap.Ns builtinsNs mb) (hmb : mb "super" = some (.type "super")) (hlim : s.heap.NoLimit) (hx : s.heap.get? x = some (excO C t0)) (hxC : x ≠ C) (hnx : K.lookup x = none) (hroom : A.depth < recursionLimit)
    (hq : ∀ h' tk dx t1, InitEnd s.heap h' x C dx t1 v → R (.ok (.ret .none)) { s with heap := h', toks := tk }) :
    codeAny (model prog w) A (.call (.ref fI) ⟨[.ref x, v], []⟩) R s := by
  obtain ⟨oc, T0, od, kV, doc, pm, ct, an, osl, p, cc, cda, oT, ot, it, nt, vs, file, tf, ccl, cl, cdd, cld, ccs, csl, ho, hcd, lT, eT, rfl, hcode, hvs, hfile, hcell, hline⟩ := T.fn
  obtain ⟨nm, q, N, bs, bm, sn, sub, ab, col, dd, k0, k1, k2, k3, k5, hC, hbm, hal⟩ := T.cls
  have hcl : clsIn K C = some { name := nm, bases := bs, mro := .ref C :: bm, ns := N, qualname := q, hasDict := true, slotNames := sn, subclasses := sub, abstract := ab, collection := col, hasDel := false } := by unfold clsIn; rw [hC] <;> rfl
  have hcellN : ∀ y ∈ iS.names, y.2 ≠ .cell := by decide
  have hloc : ∀ y ∈ [(("self" : Str), Value.ref x), (("value" : Str), v)], iS.names.lookup y.1 = some .local := fun y hy => by
    rcases List.mem_cons.mp hy with rfl | hy
    · exact (by decide : iS.names.lookup ("self" : Str) = some .local)
    · rcases List.mem_cons.mp hy with rfl | hy
      · exact (by decide : iS.names.lookup ("value" : Str) = some .local)
      · cases hy
  refine ks_codeAny_call_defAt (fd := fnX "__init__" qual (iA p) (iB p) iS [("__class__", cc)] (.ref oT) kV doc pm an (.ref cda) ct) (body := iB p) (binds := [("self", .ref x), ("value", v)]) hroom (X _ _ ho) rfl hlim (codeRec_of X hcd) rfl ?hb hcellN hloc (fun h₁ hn k => ?_) rfl rfl rfl
  case hb =>
    refine L2.BindsTo.of_looks fun M => ?_
    exact L2.looks_items (k := fun o => _) X lT eT (Looks.of_pure (by rfl))
  have X₁ : K.In h₁ := X.keeps k
  have hx₁ := k _ _ hx
  have hC₁ := X₁ _ _ hC
  have I : InstAt h₁ x (excO C t0) C none := ⟨hx₁, rfl, rfl, trivial⟩
  show _root_.PySem.wpAt (model prog w) (A.deeper (ksEnv qual iS s.heap.objs.size fI (.ref cda) cc)) (.func (iB p) (ksEnv qual iS s.heap.objs.size fI (.ref cda) cc)) (execs (iB p) (ksEnv qual iS s.heap.objs.size fI (.ref cda) cc)) _ _ _
  refine ks_wpAt_execs_cons (ks_wpAt_Expr_any (ks_wpAt_MethodCall (he := ev_super _ _ _ _ _ hline) ?_))
  refine ks_wpAt_super_base (f := fI) (cc := cda) rfl rfl rfl rfl (X₁ _ _ ho) rfl rfl rfl (X₁ _ _ hcode) rfl hvs hfile T.top ?_
  refine ks_loadName_global rfl rfl (loadGlobal_builtin (mg := mg) (mb := mb) (G.keeps k) hsup (B.keeps k) hmb ⟨rfl, ?_⟩)
  refine wpAny_loadName_free rfl rfl rfl ⟨_, X₁ _ _ hcell, rfl⟩ ?_
  refine wpAny_loadName_local (v := .ref x) rfl rfl hn rfl ?_
  refine ks_wpAny_isType_cls hC₁ rfl ⟨rfl, ?_⟩
  refine ks_wpAny_call_super hC₁ rfl hx₁ rfl (fun c e => by cases e) (looks_mroIn X₁ T.mro) (fun h2 e2 k2 => ?_)
  have X₂ : K.In h2 := X₁.keeps k2
  have hx₂ := k2 _ _ hx₁
  have hC₂ := X₂ _ _ hC
  have I₂ : InstAt h2 x (excO C t0) C none := ⟨hx₂, rfl, rfl, trivial⟩
  refine kxs_getMethod (l := bm) kxs_ValueError e2 (looks_opaque X₂ T.opq) (l₀ := .ref C :: bm) (fun A Q E s k q => wpAny_bind ((looks_clsIn X₂ hcl) A _ E s k (wpAny_pure q))) (by simp) X₂ hal (I₂.type.andThen (looks_subIn X₂ T.vaC)) hxC rfl ?_
  have k3 : ∀ b o, h2.get? b = some o → (h2.push (kxs_mw "ValueError.__init__" x)).get? b = some o := fun b o e => Heap.get?_push_of_some _ e
  have hu : (h2.push (kxs_mw "ValueError.__init__" x)).get? h2.objs.size = some (kxs_mw "ValueError.__init__" x) := Heap.get?_push_at rfl rfl
  have hC₃ := k3 _ _ hC₂
  have hx₃ := k3 _ _ hx₂
  refine kxs_callWith (i := "ValueError.__init__") (x := x) rfl (evalArgs_empty ⟨hu, ?_⟩)
  refine wpAny_call (codeAny_of_tree ?_)
  show wpAny _ (A.deeper _).in1 (callAny (.ref h2.objs.size) ⟨[], []⟩) _ _ _
  simp only [callAny]
  refine wpAny_bind (wpAny_load hu ?_)
  simp only [kxs_mw, show (Value.type "method-wrapper" == Value.type "method" || Value.type "method-wrapper" == Value.type "builtin_function_or_method" || Value.type "method-wrapper" == Value.type "method-wrapper") = true by decide, if_true]
  refine KFB.if_so (by decide) ?_
  refine wpAny_bind (check_bound_init F.excBase_ValueError.toExcCallFacts hC₃ hx₃ rfl ?_)
  refine wpAny_bind (wpAny_pure (wpAny_pure ?_))
  refine ⟨plainId_quiet F.excBase_ValueError.init.plain _, codeAny_builtin F.excBase_ValueError.initEntry ?_⟩
  refine exc_init_tree (cls := .ref C) (t0 := t0) (dv := none) (c2 := .none) (c3 := .none) (b4 := .bool false) hx₃ (Nat.zero_le _) fun h4 k4 hx₄ ht₄ => ?_
  have kk : ∀ b o, b ≠ x → h₁.get? b = some o → h4.get? b = some o := fun b o hb e => k4 b o hb (k3 _ _ (k2 _ _ e))
  have xL : s.heap.objs.size ≠ x := Nat.ne_of_gt (Heap.lt_size hx)
  have hn₄ : h4.Ns s.heap.objs.size (fun y => List.lookup y (List.reverse [(("self" : Str), Value.ref x), (("value" : Str), v)])) := by
    obtain ⟨oL, es, ep, hL, r⟩ := hn
    exact ⟨oL, es, ep, kk _ _ xL hL, r⟩
  have X₄ : K.In h4 := fun a o e => k4 a o (fun z => by rw [z, hnx] at e; cases e) (k3 _ _ (X₂ a o e))
  show _root_.PySem.wpAt (model prog w) (A.deeper (ksEnv qual iS s.heap.objs.size fI (.ref cda) cc)) (.func (iB p) (ksEnv qual iS s.heap.objs.size fI (.ref cda) cc)) (execs [.Assign [.Attribute (.Name "self" p.b1) "value" p.b2] (.Name "value" p.b3) p.b4] (ksEnv qual iS s.heap.objs.size fI (.ref cda) cc)) _ _ _
  refine wpAt_of_wpAny (wpAny_execs_cons (plainObj_wpAny_Assign_Attribute ?_))
  refine ldC (v := v) hn₄ rfl (ldC (v := .ref x) hn₄ rfl ?_ rfl rfl) rfl rfl
  refine set_plain X₄ (ox := excO C (h2.push (kxs_mw "ValueError.__init__" x)).objs.size) (od := none) ⟨hx₄, rfl, rfl, trivial⟩ T.sa ?_
  refine exc_osa X₄ hx₄ hcl (show refsVE (.ref C :: bm) = true from hbm) rfl T.noN (fun h₅ tk₅ dx k₅ dn dne hx₅ hn₅ => ?_)
  show wpAny _ _ (execs [] _) _ _ _
  have z : s.heap.objs.size < h4.objs.size := hn₄.lt
  exact wpAny_execs_nil (hq h₅ tk₅ dx _ ⟨fun b o hb e => k₅ b o hb (kk b o hb (k b o e)), hx₅, Nat.le_of_lt (Nat.lt_of_lt_of_le z dn), dne, hn₅⟩)
/-- a made one -/
structure OwnMade (h h' : Heap) (e C d : Addr) (v : Value) : Prop where
  keep : ∀ b o, h.get? b = some o → h'.get? b = some o
  new : h.objs.size ≤ e
  obj : ∃ oe vs, h'.get? e = some oe ∧ oe.cls = .ref C ∧ oe.dict = some d ∧ oe.data = .fields vs ∧ vs[1]? = some .none
  dbig : h.objs.size ≤ d
  dne : d ≠ e
  ns : h'.Ns1 d (fun y => if y = "value" then some v else none)
theorem leaf_made (T : LeafTxt prog K C fI qual) {v : Value} (X : K.In s.heap) (G : s.heap.Ns mainGlobals mg) (hsup : mg "super" = none) (B : s.heap.Ns builtinsNs mb) (hmb : mb "super" = some (.type "super")) (hlim : s.heap.NoLimit) (hroom : A.depth + 1 < recursionLimit)
    (hq : ∀ h' tk e d, OwnMade s.heap h' e C d v → R (.ok (.ret (.ref e))) { s with heap := h', toks := tk }) :
    codeAny (model prog w) A (.call (.ref C) ⟨[v], []⟩) R s := by
  obtain ⟨nm, q, N, bs, bm, sn, sub, ab, col, dd, k0, k1, k2, k3, k5, hC, hbm, hal⟩ := T.cls
  obtain ⟨hp, g, dr, tk, os⟩ := s
  have k : ∀ b o, hp.get? b = some o → ((hp.push (kdv_tup [v])).push (excO C hp.objs.size)).get? b = some o := fun b o e => Heap.get?_push_of_some _ (Heap.get?_push_of_some _ e)
  have hget : ((hp.push (kdv_tup [v])).push (excO C hp.objs.size)).get? (hp.objs.size + 1) = some (excO C hp.objs.size) := by heap_get
  have hnx : K.lookup (hp.objs.size + 1) = none := by
    cases e : K.lookup (hp.objs.size + 1) with
    | none => rfl
    | some o =>
      have z : hp.get? (hp.objs.size + 1) = some o := X _ _ e
      exact absurd (Nat.lt_of_succ_lt (Heap.lt_size z)) (Nat.lt_irrefl _)
  have hxC : hp.objs.size + 1 ≠ C := fun z => by
    have y : hp.get? C = some _ := X _ _ hC
    have y' := Heap.lt_size y
    rw [← z] at y'
    exact absurd (Nat.lt_of_succ_lt y') (Nat.lt_irrefl _)
  refine call_own F.excBase_ValueError (fun X => refsVE_contains X bm hbm) (X _ _ hC) (looks_findIn X T.iC) (fun self => bind_fn X self T.tC) (by show 1 ≤ sizeLine; rw [sizeLine_eq]; omega) ?_
  refine leaf_init (s := ⟨(hp.push (kdv_tup [v])).push (excO C hp.objs.size), g, dr, tk, os⟩) T (X.keeps k) (G.keeps k) hsup (B.keeps k) hmb (hlim.keeps k) hget hxC hnx ?_ fun h' tk' dx t1 ⟨k', hx, dn, dne, hns⟩ => ?_
  · show A.depth + 1 < recursionLimit
    exact hroom
  · have old : ∀ b o, hp.get? b = some o → h'.get? b = some o := fun b o e => k' b o (Nat.ne_of_lt (Nat.lt_succ_of_lt (Heap.lt_size e))) (k b o e)
    have z : hp.objs.size + 1 + 1 ≤ dx := by
      first
        | (simpa only [Heap.size_push] using dn)
        | exact dn
        | (have q := dn; rw [Heap.size_push, Heap.size_push] at q; exact q)
    exact ⟨rfl, hq h' tk' (hp.objs.size + 1) dx ⟨old, Nat.le_succ _, ⟨_, _, hx, rfl, rfl, rfl, rfl⟩, Nat.le_trans (Nat.le_trans (Nat.le_succ _) (Nat.le_succ _)) z, dne, hns⟩⟩
end
end LeafX
end PySem

/-! LwEb: several except clauses, some with a name; an own error is raised. (The first proof is turned from the rules for clauses without a name and for one clause with a name.) -/
namespace L2
open PySem PySem.Spec PyProof.Rows
/-- what the clauses wish: slot i is the name's -/
def wManyN (K : PySem.W.Frag) (Wout : WX) (D : Ends) : List (Value × Option Nat × (Addr → Value → Option Addr → TS)) → WX
  | [] => Wout
  | (c, none, ts) :: r => fun cls d σ H => ∃ b, PySem.W.exmOne K cls c = some b ∧ (b = true → ∀ a, H a = none → ts a cls d D σ H) ∧ (b = false → wManyN K Wout D r cls d σ H)
  | (c, some i, ts) :: r => fun cls d σ H => ∃ b, PySem.W.exmOne K cls c = some b ∧ (b = true → ∀ a, H a = none → ts a cls d { nx := fun σ' H' => D.nx (σ'.set i none) H', rt := D.rt, bk := fun σ' H' => D.bk (σ'.set i none) H', ct := fun σ' H' => D.ct (σ'.set i none) H' } (σ.set i (some (.ref a))) H) ∧ (b = false → wManyN K Wout D r cls d σ H)
inductive HdsN (X : Cx) : List ExceptHandler → List (Value × Option Nat × (Addr → Value → Option Addr → TS)) → Prop
  | nil : HdsN X [] []
  | cons {x : Str} {c : Value} {ts : Addr → Value → Option Addr → TS} {b₀ : Stmt} {suite : List Stmt} {np pos' : Pos} {hds : List ExceptHandler} {l : List (Value × Option Nat × (Addr → Value → Option Addr → TS))} (hc : Names X x c)
      (hsu : ∀ (a : Addr) (oe : Obj) (cls : Value) (d : Option Addr) (pn : List (Addr × Obj)), Zc cls d oe → (∃ vs, oe.data = .fields vs) → PSs (X.suite a ((a, oe) :: pn)) (b₀ :: suite) (ts a cls d)) (r : HdsN X hds l) :
      HdsN X (.ExceptHandler (some (.Name x np)) none (b₀ :: suite) pos' :: hds) ((c, none, ts) :: l)
  | consAs {x n : Str} {i : Nat} {c : Value} {ts : Addr → Value → Option Addr → TS} {b₀ : Stmt} {suite : List Stmt} {np pos' : Pos} {hds : List ExceptHandler} {l : List (Value × Option Nat × (Addr → Value → Option Addr → TS))} (hi : X.N[i]? = some n) (hln : X.env.kindOf n = some .local) (hc : Names X x c)
      (hsu : ∀ (a : Addr) (oe : Obj) (cls : Value) (d : Option Addr) (pn : List (Addr × Obj)), Zc cls d oe → (∃ vs, oe.data = .fields vs) → PSs (X.suite a ((a, oe) :: pn)) (b₀ :: suite) (ts a cls d)) (r : HdsN X hds l) :
      HdsN X (.ExceptHandler (some (.Name x np)) (some n) (b₀ :: suite) pos' :: hds) ((c, some i, ts) :: l)
section
variable {X : Cx} {body : List Stmt} {h₀ : ExceptHandler} {hds : List ExceptHandler} {l : List (Value × Option Nat × (Addr → Value → Option Addr → TS))} {pos : Pos} {tb : WX → TS} {Wout : WX}
theorem ps_try_manyN (hN : X.N.Nodup) (hs : X.stack = X.env :: X.outer) (hf : X.env.frame = some X.env.locals) (tk : Takes X Wout)
    (hb : ∀ (W : WX) (pn : List (Addr × Obj)) (xe : Value → Shared → Prop), Takes (X.tr pn xe) W → PassesOwn (model X.prog X.w) X.A X.env xe → PSs (X.tr pn xe) body (tb W))
    (hh : HdsN X (h₀ :: hds) l) : PS X (.Try body (h₀ :: hds) [] [] pos) (fun D σ H => tb (wManyN X.K Wout D l) D σ H) := by
  refine ⟨fun pins s σ H D I h => ?_⟩
  have ok := I.ok
  have hfr : X.A.frames = some (X.env :: X.outer) := by rw [ok.frames, hs]
  refine wpAny_Try_except ?_
  refine wpAny_mono ((hb (wManyN X.K Wout D l) (X.pn ++ pins) (fun e s₁ => wpAny (model X.prog X.w) X.A (noteFrame e X.env) (fun _ s₂ => wpAny (model X.prog X.w) X.A (setFlight e none) (fun _ s₃ =>
    wpAny (model X.prog X.w) X.A (handleBy e X.env (h₀ :: hds)) (SP X pins D) X.xe s₃) X.xe s₂) X.xe s₁) (fun u s' xx => ?_) PassesOwn.looking).run [] s σ H D (I.toTry _) h) (fun f s1 hsp => ?_) (fun e s1 he => he)
  · -- the catch
    obtain ⟨a, B, sI, pins', σ', H', cls, d, rfl, J', nb, up, sky, na, os, ag, w⟩ := xx
    have J : Inv X pins σ' H' sI := J'.ofTry ok
    have sky' : Sky B (X.env :: X.outer) a (Zc cls d) X.env.locals s'.heap := by rw [← hs]; exact sky
    show wpAny (model X.prog X.w) X.A (noteFrame (.ref a) X.env) _ _ _
    refine Sky.land Zc.steady hfr hf sky' fun h3 fl3 up3 => ?_
    have J3 : Inv X pins σ' H' { s' with heap := h3 } := J.landed nb fl3.1 (up.trans up3) os ag
    obtain ⟨oe3, vs3, he3, hz3, hd3⟩ := fl3.there
    have notFr : ∀ {h : Heap} {o : Obj} {vs : Array Value}, h.FunFrames B (X.env :: X.outer) → h.get? a = some o → o.data = .fields vs → a ∉ frs (X.env :: X.outer) := fun {h o vs} ff e dd hm => by
      obtain ⟨_, o', e', hnf⟩ := ff.mem hm
      rw [e] at e'; cases e'
      exact hnf _ dd
    have nfr := notFr fl3.2.2.1 he3 hd3
    have nL : a ≠ X.env.locals := fun z => nfr (List.mem_filterMap.mpr ⟨X.env, List.mem_cons_self, by rw [hf, z]⟩)
    have nF : a ∉ X.fs := fun hm => by
      obtain ⟨e, he, q⟩ := List.mem_filterMap.mp hm
      exact nfr (List.mem_filterMap.mpr ⟨e, List.mem_cons_of_mem _ he, q⟩)
    have S3 := J3.suite he3 hd3 na nL nF
    have go : ∀ {hds' : List ExceptHandler} {l' : List (Value × Option Nat × (Addr → Value → Option Addr → TS))}, HdsN X hds' l' → wManyN X.K Wout D l' cls d σ' H' →
        wpAny (model X.prog X.w) X.A (handleBy (.ref a) X.env hds') (SP X pins D) X.xe { s' with heap := h3 } := by
      intro hds' l' hk
      induction hk with
      | nil =>
        intro w
        refine wpAny_handleBy_nil ?_
        obtain ⟨k1, k2, k3, oe, vs, T, oT, ts', he, hz, hd, h1, hr⟩ := id fl3
        unfold PySem.passOn
        refine wpAny_bind (wpAny_field he hd h1 ?_)
        rw [if_neg (show ¬ ((Value.ref T == Value.none) = true) from by simp)]
        have fin : wpAny (model X.prog X.w) X.A (setFlight (.ref a) X.env.frame) (fun _ s4 => wpAny (model X.prog X.w) X.A (throw (.ref a) : Sem Flow) (SP X pins D) X.xe s4) X.xe { s' with heap := h3 } := by
          rw [hf]
          refine HandSPX.setFlight_upZ fl3 fun h4 hh4 up4 => wpAny_throw (tk _ _ ?_)
          exact ⟨a, B, sI, pins, σ', H', cls, d, rfl, J, nb, (up.trans up3).trans up4, .inr (.inr (by rw [hs]; exact hh4)), na, os, ag, w⟩
        first
          | exact wpAny_bind (wpAny_pure (wpAny_bind fin))
          | exact wpAny_bind fin
      | @cons x c ts b₀ suite np pos' hds2 l2 hc hsu r ih =>
        intro w
        obtain ⟨b, hb1, hyes, hno⟩ := w
        refine wpAny_handleBy_cons (codeAny_handlers_test ?_) (by intro q; cases q)
        have LT : PySem.W.Looks (model X.prog X.w) h3 (typeOf (.ref a)) cls := fun A Q E s k q => wpAny_typeOf_ref (k _ _ he3) (by rw [hz3.1]; exact q)
        have LM := PySem.W.exm_one (M := model X.prog X.w) (J3.kIn) LT hb1
        have test : ∀ {Q : Value → Shared → Prop} {E : Value → Shared → Prop}, Q c { s' with heap := h3 } → wpAny (model X.prog X.w) (X.A.mark (some (.ref a))) (eval (.Name x np) X.env) Q E { s' with heap := h3 } := fun {Q E} q => by
          obtain ⟨hg, hdbg, hm | ⟨hm, hv, hnn⟩⟩ := hc
          · exact ld_glob (X := X.suite a ((a, oe3) :: (X.pn ++ pins))) S3 hg hm q hdbg
          · exact ld_blt (X := X.suite a ((a, oe3) :: (X.pn ++ pins))) S3 hg hm hv q hnn hdbg
        refine test (LM.here ?_)
        cases b with
        | true =>
          refine codeAny_handlers_suite ?_
          refine HandSPX.lands_againZ fl3 fun h4 fl4 up4 => ?_
          have J4 : Inv X pins σ' H' { s' with heap := h4 } := J.landed nb fl4.1 ((up.trans up3).trans up4) os ag
          obtain ⟨oe4, vs4, he4, hz4, hd4⟩ := fl4.there
          have S4 := J4.suite he4 hd4 na nL nF
          refine wpAny_mono ((hsu a oe4 cls d (X.pn ++ pins) hz4 ⟨_, hd4⟩).run [] _ _ H' _ S4 (hyes rfl a na)) (fun f s6 hsp => ?_) (fun _ _ z => False.elim z)
          cases f with
          | next =>
            obtain ⟨σ6, H6, S6, q6⟩ := hsp
            exact ⟨_, _, S6.unsuite ok, q6⟩
          | brk =>
            obtain ⟨σ6, H6, S6, q6⟩ := hsp
            exact ⟨_, _, S6.unsuite ok, q6⟩
          | cont =>
            obtain ⟨σ6, H6, S6, q6⟩ := hsp
            exact ⟨_, _, S6.unsuite ok, q6⟩
          | ret u =>
            obtain ⟨v6, σ6, H6, S6, r6, q6⟩ := hsp
            exact ⟨_, _, _, S6.unsuite ok, r6, q6⟩
        | false =>
          show wpAny _ X.A (handleBy (.ref a) X.env hds2) _ _ _
          exact ih (hno rfl)
      | @consAs x n i c ts b₀ suite np pos' hds2 l2 hi hln hc hsu r ih =>
        intro w
        have hloc : Loc X.env.scope n := .inl hln
        obtain ⟨b, hb1, hyes, hno⟩ := w
        refine wpAny_handleBy_cons (codeAny_handlers_test ?_) (by intro q; cases q)
        have LT : PySem.W.Looks (model X.prog X.w) h3 (typeOf (.ref a)) cls := fun A Q E s k q => wpAny_typeOf_ref (k _ _ he3) (by rw [hz3.1]; exact q)
        have LM := PySem.W.exm_one (M := model X.prog X.w) (J3.kIn) LT hb1
        have test : ∀ {Q : Value → Shared → Prop} {E : Value → Shared → Prop}, Q c { s' with heap := h3 } → wpAny (model X.prog X.w) (X.A.mark (some (.ref a))) (eval (.Name x np) X.env) Q E { s' with heap := h3 } := fun {Q E} q => by
          obtain ⟨hg, hdbg, hm | ⟨hm, hv, hnn⟩⟩ := hc
          · exact ld_glob (X := X.suite a ((a, oe3) :: (X.pn ++ pins))) S3 hg hm q hdbg
          · exact ld_blt (X := X.suite a ((a, oe3) :: (X.pn ++ pins))) S3 hg hm hv q hnn hdbg
        refine test (LM.here ?_)
        cases b with
        | true =>
          refine codeAny_handlers_suite_as ?_
          refine HandSPX.lands_againZ fl3 fun h4 fl4 up4 => ?_
          have J4 : Inv X pins σ' H' { s' with heap := h4 } := J.landed nb fl4.1 ((up.trans up3).trans up4) os ag
          obtain ⟨oe4, vs4, he4, hz4, hd4⟩ := fl4.there
          have S4 := J4.suite he4 hd4 na nL nF
          refine store_ok (X := X.suite a ((a, oe4) :: (X.pn ++ pins))) (v := .ref a) S4 hN hi hloc rfl (fun s5 S5 => ?_) (.inr hln)
          refine wpAny_mono ((hsu a oe4 cls d (X.pn ++ pins) hz4 ⟨_, hd4⟩).run [] s5 _ H' _ S5 (hyes rfl a na)) (fun f s6 hsp => ?_) (fun _ _ z => False.elim z)
          have end_ : ∀ {σ6 : St} {H6 : Hp} {Q : Shared → Prop}, Inv (X.suite a ((a, oe4) :: (X.pn ++ pins))) [] σ6 H6 s6 → (∀ s7, Inv X pins (σ6.set i none) H6 s7 → Q s7) →
              wpAny (model X.prog X.w) X.A (do bindName X.env n .none; unbindBehindTheSuite X.env n pos') (fun _ s7 => Q s7) X.xe s6 := fun {σ6 H6 Q} S6 hq => gone_ok (S6.unsuite ok) hN hi hln hq
          cases f with
          | next =>
            obtain ⟨σ6, H6, S6, q6⟩ := hsp
            exact end_ S6 fun s7 J7 => ⟨_, _, J7, q6⟩
          | brk =>
            obtain ⟨σ6, H6, S6, q6⟩ := hsp
            exact end_ S6 fun s7 J7 => ⟨_, _, J7, q6⟩
          | cont =>
            obtain ⟨σ6, H6, S6, q6⟩ := hsp
            exact end_ S6 fun s7 J7 => ⟨_, _, J7, q6⟩
          | ret u =>
            obtain ⟨v6, σ6, H6, S6, r6, q6⟩ := hsp
            exact end_ S6 fun s7 J7 => ⟨_, _, _, J7, r6, q6⟩
        | false =>
          show wpAny _ X.A (handleBy (.ref a) X.env hds2) _ _ _
          exact ih (hno rfl)
    exact go hh w
  · cases f with
    | next =>
      obtain ⟨σ', H', J', q⟩ := hsp
      exact wpAny_execs_nil ⟨σ', H', J'.ofTry ok, q⟩
    | brk =>
      obtain ⟨σ', H', J', q⟩ := hsp
      exact ⟨σ', H', J'.ofTry ok, q⟩
    | cont =>
      obtain ⟨σ', H', J', q⟩ := hsp
      exact ⟨σ', H', J'.ofTry ok, q⟩
    | ret u =>
      obtain ⟨v, σ', H', J', r, q⟩ := hsp
      exact ⟨v, σ', H', J'.ofTry ok, r, q⟩
end
theorem relO_leaf {v : V} {v' : Value} (r : RelV v v') (f : Str) : RelO (List.lookup f [(("value" : Str), v)]) (if f = "value" then some v' else none) := by
  by_cases hw : f = "value"
  · subst hw
    rw [if_pos rfl]
    have q : List.lookup ("value" : Str) [(("value" : Str), v)] = some v := by simp [List.lookup]
    rw [q]
    exact r
  · rw [if_neg hw]
    have qw : (f == ("value" : Str)) = false := by simpa using hw
    have q2 : List.lookup f [(("value" : Str), v)] = none := by simp [List.lookup, qw]
    rw [q2]
    trivial
section
variable {X : Cx} {C fI : Addr} {qual x : Str}
/-- Low(e) -/
def tMkLeaf (C : Addr) (ta : TA) : St → Hp → XK → Prop := fun σ H Q => ta σ H fun vs H1 => ∃ v, vs = [v] ∧ ∀ d, H1 d = none → Q (.ref C) (some d) (upd H1 d (.xd [(("value" : Str), v)]))
theorem pmk_leaf {a : Expr} {ta : TA} {p pos : Pos} {k : Nat} (T : PySem.LeafX.LeafTxt X.prog X.K C fI qual) (gC : X.mg x = some (.ref C)) (kC : PySem.W.keepIn X.K (.ref C) = true) (hsup : X.mg "super" = none) (hr : Room k X.A) (ha : PA X [a] ta) (hg : Gl X x := by rfl) (hdb : (x == ("__debug__" : Str)) = false := by decide)
    (he : starEach (a :: []) X.env = (false, eval a X.env) :: starEach [] X.env := by rfl) (hpl : (backTo pos (starEach [] X.env)).any (·.1) = false := by rfl) :
    PMk X (.Call (.Name x p) [a] [] pos) (tMkLeaf C ta) := by
  intro pins s σ H Q I h
  refine wpAny_Call_Name_kw (ld_glob I hg gC ?_ hdb)
  refine PySem.W.callWith_K (h₀ := X.base) I.ok.mod.kin kC (thn (ha.run pos pins s σ H _ I h) fun us s1 hh => ?_) he hpl
  obtain ⟨vs, H1, I1, r1, v, ev, q1⟩ := hh
  subst ev
  refine ⟨I1.kIn, ?_⟩
  cases r1 with
  | cons rv rn =>
    rename_i v' us'
    cases rn
    show wpAny _ _ (call (.ref C) [v']) _ _ _
    have hlim := I1.nolimit
    obtain ⟨mb, hb1, hb2⟩ := I1.mod.blt
    have G1 := I1.mod.glob.keeps I1.bk
    have B1 := hb1.keeps I1.bk
    have hmb : mb "super" = some (.type "super") := (hb2 _ (by decide)).trans (by decide +kernel)
    obtain ⟨hp, g, dr, tk, os⟩ := s1
    refine wpAny_call (PySem.LeafX.leaf_made T I1.kIn G1 hsup B1 hmb hlim (by have := hr.dp; omega) fun h' tk' e d M => ?_)
    show MkP X pins σ Q (.ref e) ⟨h', g, dr, tk', os⟩
    obtain ⟨oe, fv, hoe, hc, hd, hdat, h1⟩ := M.obj
    have hns := M.ns
    obtain ⟨G', g1, g2⟩ := restrict h' fun b => decide (b ≠ e)
    have gk : ∀ b, b ≠ e → G'.get? b = h'.get? b := fun b hb => g1 b (decide_eq_true hb)
    have ge : G'.get? e = none := g2 e (by simp)
    have old : ∀ b o, hp.get? b = some o → G'.get? b = some o := fun b o q => (gk b (Nat.ne_of_lt (Nat.lt_of_lt_of_le (Heap.lt_size q) M.new))).trans (M.keep b o q)
    have ob : ObjOk X.prog X.w (upd H1 d (.xd [(("value" : Str), v)])) G' d (.xd [(("value" : Str), v)]) :=
      ⟨_, hns.at (fun o q => (gk d M.dne).trans q), fun f => relO_leaf rv f⟩
    have J : Inv X pins σ (upd H1 d (.xd [(("value" : Str), v)])) ⟨G', g, dr, tk', os⟩ := I1.laid (t' := tk') old M.dbig ob
    refine ⟨e, oe, fv, ⟨G', g, dr, tk', os⟩, _, .ref C, some d, rfl, J, fun b o q => ?_, ge, hoe, ⟨hc, hd⟩, hdat, h1, ?_, rfl, I1.bare, raises_own T.exC T.tyC, q1 d (I1.hok.fresh M.dbig)⟩
    · by_cases hb : b = e
      · have q' : G'.get? b = some o := q
        rw [hb, ge] at q'; cases q'
      · exact (gk b hb).symm.trans q
    · rw [upd_ne (Ne.symm M.dne)]
      exact I1.hok.fresh M.new
/-- raise Low(e) -/
def tRaiseLeaf (C : Addr) (W : WX) (ta : TA) : TS := fun _ σ H => tMkLeaf C ta σ H fun cls d H' => W cls d σ H'
theorem ps_raiseLeaf {a : Expr} {ta : TA} {W : WX} {p pos pos2 : Pos} {k : Nat} (hc : X.calm = true) (T : PySem.LeafX.LeafTxt X.prog X.K C fI qual) (gC : X.mg x = some (.ref C)) (kC : PySem.W.keepIn X.K (.ref C) = true) (hsup : X.mg "super" = none) (hr : Room k X.A) (tk : Takes X W) (ha : PA X [a] ta) (hg : Gl X x := by rfl) (hdb : (x == ("__debug__" : Str)) = false := by decide)
    (he : starEach (a :: []) X.env = (false, eval a X.env) :: starEach [] X.env := by rfl) (hpl : (backTo pos (starEach [] X.env)).any (·.1) = false := by rfl) :
    PS X (.Raise (some (.Call (.Name x p) [a] [] pos)) none pos2) (tRaiseLeaf C W ta) := ps_raise hc tk (pmk_leaf T gC kC hsup hr ha hg hdb he hpl)
end
end L2

/-! LwEc: statements and expressions that may raise, by plain functions; defs that may raise. -/
namespace LW
open PySem L2 PyProof.Rows

/-- an exception of the class cn whose value is d -/
def XcP (mg : Glob) (N : Prot) (c : List Addr) (H : Hp) (cls : Value) (dd : Option Addr) (cn : Str) (d : D) : Prop :=
  ∃ C da v, cls = .ref C ∧ dd = some da ∧ mg.mg cn = some (.ref C) ∧ H da = some (.xd [(("value" : Str), v)]) ∧ ¬ N da ∧ Rep mg N c H v d
inductive OutX where
  | o (o : Out) | ex (cn : Str) (d : D) (env : Env)
inductive RX where
  | ok (d : D) | ex (cn : Str) (d : D)
abbrev SX := Env → Sto → Option (OutX × Sto)
abbrev EX := Env → Sto → Option (RX × Sto)
abbrev FX := List D → Sto → Option (RX × Sto)
def PostX (mg : Glob) (W : WX) (E : En) (N : Prot) (c : List Addr) (H : Hp) (De : Ends) (o : OutX) (st' : Sto) : Prop := match o with
  | .o o => PostS mg E N c H De o st'
  | .ex cn d env' => ∀ N' c' σ' H' cls dd, Sx N c H N' c' H' → Rel mg E N' c' env' st' σ' H' → XcP mg N' c' H' cls dd cn d → W cls dd σ' H'
def tSX (mg : Glob) (W : WX) (f : SX) : TS := fun De σ H => ∃ (E : En) (N : Prot) (c : List Addr) (env : Env) (st : Sto) (o : OutX) (st' : Sto), Rel mg E N c env st σ H ∧ f env st = some (o, st') ∧ PostX mg W E N c H De o st'
def PostE (mg : Glob) (W : WX) (σ : L2.St) (N : Prot) (c : List Addr) (H : Hp) (Q : VK) (r : RX) (st' : Sto) : Prop := match r with
  | .ok d => ∀ v N' c' H', Ex N c H N' c' H' → Wd mg N' c' H' st' → Rep mg N' c' H' v d → Q v H'
  | .ex cn d => ∀ N' c' H' cls dd, Ex N c H N' c' H' → Wd mg N' c' H' st' → XcP mg N' c' H' cls dd cn d → W cls dd σ H'
def tEX (mg : Glob) (W : WX) (f : EX) : TE := fun σ H Q => ∃ (E : En) (N : Prot) (c : List Addr) (env : Env) (st : Sto) (r : RX) (st' : Sto), Rel mg E N c env st σ H ∧ f env st = some (r, st') ∧ PostE mg W σ N c H Q r st'
section
variable {mg : Glob} {W : WX} {E : En} {N N' : Prot} {c c' : List Addr} {H H' : Hp} {De : Ends} {o : OutX} {st st' : Sto} {env env' : Env} {σ : L2.St}
theorem PostX.from (x : Sx N c H N' c' H') (p : PostX mg W E N c H De o st') : PostX mg W E N' c' H' De o st' := by
  cases o with
  | o o => exact PostS.from x p
  | ex cn d e => exact fun N2 c2 σ2 H2 cls dd x2 R2 z => p N2 c2 σ2 H2 cls dd (x.trans x2) R2 z
end
def xL (f : SS) : SX := fun env st => (f env st).map fun p => (.o p.1, p.2)
def xNil : SX := fun env st => some (.o (.nx env), st)
def xSeq (f g : SX) : SX := fun env st => match f env st with
  | some (.o (.nx e), s1) => g e s1
  | r => r
def xIf (t : SB) (f g : SX) : SX := fun env st => match t env st with
  | some (true, s1) => f env s1
  | some (false, s1) => g env s1
  | none => none
def xRaise (cn : Str) (f : SE) : SX := fun env st => match f env st with
  | some (d, s1) => some (.ex cn d env, s1)
  | none => none
def xDrop (f : EX) : SX := fun env st => match f env st with
  | some (.ok _, s1) => some (.o (.nx env), s1)
  | some (.ex cn d, s1) => some (.ex cn d env, s1)
  | none => none
def xSet (i : Nat) (f : EX) : SX := fun env st => match f env st with
  | some (.ok d, s1) => some (.o (.nx (env.set i (.val d))), s1)
  | some (.ex cn d, s1) => some (.ex cn d env, s1)
  | none => none
def xRet (f : EX) : SX := fun env st => match f env st with
  | some (.ok d, s1) => some (.o (.rt d), s1)
  | some (.ex cn d, s1) => some (.ex cn d env, s1)
  | none => none
section
variable {mg : Glob} {X : Cx} {W : WX} {s : Stmt} {rest : List Stmt} {e : Expr} {pos : Pos} {f g : SX} {fe : EX} {fs : SS} {t : SB}
theorem x_lift (h : PS X s (tS mg fs)) : PS X s (tSX mg W (xL fs)) := ps_weak h fun De σ H ⟨E, N, c, env, st, o, st', R, q, p⟩ => by
  unfold xL at q
  cases qf : fs env st with
  | none => rw [qf] at q; cases q
  | some r =>
    obtain ⟨o1, s1⟩ := r
    rw [qf] at q
    cases q
    exact tS_def.mpr ⟨E, N, c, env, st, o1, _, R, qf, p⟩
theorem x_nil : PSs X [] (tSX mg W xNil) := pss_weak pss_nil fun De σ H ⟨E, N, c, env, st, o, st', R, q, p⟩ => by
  cases q
  exact p N c σ H Sx.refl R
theorem x_cons (h1 : PS X s (tSX mg W f)) (h2 : PSs X rest (tSX mg W g)) : PSs X (s :: rest) (tSX mg W (xSeq f g)) := pss_weak (pss_cons h1 h2) fun De σ H ⟨E, N, c, env, st, o, st', R, q, p⟩ => by
  unfold xSeq at q
  split at q
  · rename_i e1 s1 q1
    exact ⟨E, N, c, env, st, _, s1, R, q1, fun N2 c2 σ2 H2 x2 R2 => ⟨E, N2, c2, e1, s1, o, st', R2, q, p.from x2⟩⟩
  · rename_i r hr
    refine ⟨E, N, c, env, st, o, st', R, q, ?_⟩
    cases o with
    | o o =>
      cases o with
      | nx e1 => exact absurd q (hr e1 st')
      | rt d => exact p
      | bk e1 => exact p
      | ct e1 => exact p
    | ex cn d e1 => exact p
theorem x_one (h1 : PS X s (tSX mg W f)) : PSs X [s] (tSX mg W f) := pss_one h1
theorem x_if {c : Expr} {a b : List Stmt} (hc : PT X c (tT mg t)) (ha : PSs X a (tSX mg W f)) (hb : PSs X b (tSX mg W g)) : PS X (.If c a b pos) (tSX mg W (xIf t f g)) := ps_weak (ps_if hc ha hb) fun De σ H ⟨E, N, c, env, st, o, st', R, q, p⟩ => by
  unfold xIf at q
  split at q
  · rename_i s1 q1
    refine ⟨E, N, c, env, st, true, s1, R, q1, fun N2 c2 H2 x2 W2 => ?_⟩
    exact ⟨E, N2, c2, env, s1, o, st', R.ex x2 W2, q, p.from (x2.sx R.wd W2)⟩
  · rename_i s1 q1
    refine ⟨E, N, c, env, st, false, s1, R, q1, fun N2 c2 H2 x2 W2 => ?_⟩
    exact ⟨E, N2, c2, env, s1, o, st', R.ex x2 W2, q, p.from (x2.sx R.wd W2)⟩
  · cases q
theorem x_ret (he : PE X e (tEX mg W fe)) : PS X (.Return (some e) pos) (tSX mg W (xRet fe)) := ps_weak (ps_ret he) fun De σ H ⟨E, N, c, env, st, o, st', R, q, p⟩ => by
  unfold xRet at q
  split at q
  · rename_i d s1 q1
    cases q
    exact ⟨E, N, c, env, st, _, _, R, q1, fun v N2 c2 H2 x2 W2 r2 => p c2 H2 v ((R.ex x2 W2).fin r2)⟩
  · rename_i cn d s1 q1
    cases q
    exact ⟨E, N, c, env, st, _, _, R, q1, fun N2 c2 H2 cls dd x2 W2 z => p N2 c2 σ H2 cls dd (x2.sx R.wd W2) (R.ex x2 W2) z⟩
  · cases q
theorem x_drop (he : PE X e (tEX mg W fe)) (hs : swapsWith e none pos.line X.env = pure false := by rfl) : PS X (.Expr e pos) (tSX mg W (xDrop fe)) := ps_weak (ps_expr he hs) fun De σ H ⟨E, N, c, env, st, o, st', R, q, p⟩ => by
  unfold xDrop at q
  split at q
  · rename_i d s1 q1
    cases q
    exact ⟨E, N, c, env, st, _, _, R, q1, fun v N2 c2 H2 x2 W2 r2 => p N2 c2 σ H2 (x2.sx R.wd W2) (R.ex x2 W2)⟩
  · rename_i cn d s1 q1
    cases q
    exact ⟨E, N, c, env, st, _, _, R, q1, fun N2 c2 H2 cls dd x2 W2 z => p N2 c2 σ H2 cls dd (x2.sx R.wd W2) (R.ex x2 W2) z⟩
  · cases q
end
end LW

/-! LwEd: raise; calls of defs that may raise; such defs. -/
namespace LW
open PySem L2 PyProof.Rows
section
variable {mg : Glob} {X : Cx} {W : WX} {s : Stmt} {rest : List Stmt} {e : Expr} {es : List Expr} {pos : Pos} {f g : SX} {fe : EX} {fv : SE} {fs : SS} {t : SB}
theorem x_set {i : Nat} {x : Str} {pos' : Pos} (hN : X.N.Nodup) (he : PE X e (tEX mg W fe)) (hi : X.N[i]? = some x := by rfl) (hx : Loc X.env.scope x := by first | exact Or.inl rfl | exact Or.inr rfl) (hs : swapsWith e (some (.Name x pos')) pos.line X.env = pure false := by rfl) (hf : X.fn x = true ∨ X.env.scope.names.lookup x = some .local := by first | exact .inl rfl | exact .inr rfl) :
    PS X (.Assign [.Name x pos'] e pos) (tSX mg W (xSet i fe)) := ps_weak (ps_set hN hi hx he hs hf) fun De σ H ⟨E, N, c, env, st, o, st', R, q, p⟩ => by
  unfold xSet at q
  split at q
  · rename_i d s1 q1
    cases q
    exact ⟨E, N, c, env, st, _, _, R, q1, fun v N' c' H' x W r => p N' c' _ H' (x.sx R.wd W) ((R.ex x W).set rfl ⟨v, rfl, r⟩)⟩
  · rename_i cn d s1 q1
    cases q
    exact ⟨E, N, c, env, st, _, _, R, q1, fun N2 c2 H2 cls dd x2 W2 z => p N2 c2 σ H2 cls dd (x2.sx R.wd W2) (R.ex x2 W2) z⟩
  · cases q
/-- raise cn(e) -/
theorem x_raise {C fI : Addr} {qual cn : Str} {p pos2 : Pos} {k : Nat} (hc : X.calm = true) (T : PySem.LeafX.LeafTxt X.prog X.K C fI qual) (gC : X.mg cn = some (.ref C)) (kC : PySem.W.keepIn X.K (.ref C) = true) (hsup : X.mg "super" = none) (hr : Room k X.A) (tk : Takes X W) (he : PE X e (tE mg fv))
    (hM : X.mg = mg.mg := by rfl) (hg : Gl X cn := by rfl) (hdb : (cn == ("__debug__" : Str)) = false := by decide)
    (hst : starEach (e :: []) X.env = (false, eval e X.env) :: starEach [] X.env := by rfl) (hpl : (backTo pos (starEach [] X.env)).any (·.1) = false := by rfl) :
    PS X (.Raise (some (.Call (.Name cn p) [e] [] pos)) none pos2) (tSX mg W (xRaise cn fv)) :=
  ps_weak (ps_raiseLeaf hc T gC kC hsup hr tk (pa_cons he pa_nil hst) hg hdb hst hpl) fun De σ H ⟨E, N, c, env, st, o, st', R, q, p⟩ => by
    unfold xRaise at q
    split at q
    · rename_i d s1 q1
      cases q
      refine ⟨E, N, c, env, st, _, _, R, q1, fun v N2 c2 H2 x2 W2 r2 => ⟨v, rfl, fun da hda => ?_⟩⟩
      have xa := Ex.laid (o := .xd [(("value" : Str), v)]) W2 hda
      have Wa := W2.laid (o := .xd [(("value" : Str), v)]) hda
      have x3 := x2.trans xa R.wd
      exact p N2 c2 σ _ (.ref C) (some da) (x3.sx R.wd Wa) (R.ex x3 Wa) ⟨C, da, v, rfl, rfl, hM ▸ gC, upd_same, W2.nsome hda, r2.tr (xa.tr W2)⟩
    · cases q
end
/-! ### defs that may raise -/
def spX (mg : Glob) (g : FX) (n : Nat) : Sp := fun vs H Q E => vs.length = n ∧ ∃ (N : Prot) (c : List Addr) (ds : List D) (st : Sto) (r : RX) (st' : Sto), Wd mg N c H st ∧ RepL mg N c H vs ds ∧ g ds st = some (r, st') ∧ PostE mg (fun cls d _ H => E cls d H) [] N c H Q r st'
def ArX (n : Nat) (g : FX) : Prop := ∀ ds st r, g ds st = some r → ds.length = n
def fnX (n m : Nat) (body : SX) : FX := fun ds st => if ds.length = n then (match body (env0 m ds) st with
  | some (.o (.rt d), s1) => some (.ok d, s1)
  | some (.o (.nx _), s1) => some (.ok .non, s1)
  | some (.ex cn d _, s1) => some (.ex cn d, s1)
  | _ => none) else none
theorem fnX_ar {n m : Nat} {body : SX} : ArX n (fnX n m body) := fun ds st r h => by
  unfold fnX at h
  split at h
  · assumption
  · cases h
def eCallX (g : FX) (dd : List D) (f : SA) : EX := fun env st => match f env st with
  | none => none
  | some (ds, s1) => g (ds ++ dd) s1
section
variable {P : Program} {w : World} {K : PySem.W.Frag} {mg : Str → Option Value} {base : Heap}
theorem XcP.fin {m : Glob} {E : En} {N : Prot} {c : List Addr} {env : Env} {st : Sto} {σ : L2.St} {H : Hp} {cls : Value} {dd : Option Addr} {cn : Str} {d : D} (R : Rel m E N c env st σ H) (z : XcP m N c H cls dd cn d) : XcP m (fun a => E.N0 a ∨ a ∈ c) c H cls dd cn d := by
  have less : ∀ a, (E.N0 a ∨ a ∈ c) → N a := fun a z => z.elim (R.n0 a) (R.wd.cn a)
  obtain ⟨C, da, v, e1, e2, e3, e4, e5, e6⟩ := z
  exact ⟨C, da, v, e1, e2, e3, e4, fun q => e5 (less _ q), e6.tr (Tr.less less)⟩
theorem spX_body {x qual : Str} {st : Stmt} {nm ps : List Str} {body : SX} {vs : List V} {H : Hp} {Q : VK} {E : XK} (h : spX ⟨mg, K⟩ (fnX ps.length nm.length body) ps.length vs H Q E) :
    tSX ⟨mg, K⟩ (fun cls d _ H => E cls d H) body { nx := fun _ H' => Q .non H', rt := Q } (L2.start nm vs) H := by
  obtain ⟨_, N, c, ds, st0, r, st', W, rr, q, kk⟩ := h
  unfold fnX at q
  split at q
  · rename_i hl
    have R := rel0 (nm := nm) W rr
    split at q
    · rename_i d1 s1 q1
      cases q
      exact ⟨_, N, c, _, st0, _, _, R, q1, fun c' H' v fn => kk v _ c' H' (fn.ex W) fn.wd fn.rep⟩
    · rename_i e1 s1 q1
      cases q
      exact ⟨_, N, c, _, st0, _, _, R, q1, fun N' c' σ' H' sx R' => kk .non _ c' H' ((R'.fin .non).ex W) (R'.fin .non).wd (.non)⟩
    · rename_i cn d e1 s1 q1
      cases q
      exact ⟨_, N, c, _, st0, _, _, R, q1, fun N' c' σ' H' cls dd sx R' z => kk _ c' H' cls dd ((R'.fin .non).ex W) (R'.fin .non).wd (z.fin R')⟩
    · cases q
  · cases q
/-- a def that may raise -/
theorem fn_X {x qual : Str} {st : Stmt} {f : Addr} {fd : FuncData} {nm ps : List Str} {k : Nat} {body : SX} (F : Fun K x qual st f fd) (S : FnScope nm ps (defScope st))
    (hbody : ∀ (cdv : Value) (A : Around) (outer : List PySem.Env) (s : Shared) (H : Hp) (E : XK), Room k (A.deeper (envOfC qual (defScope st) s.heap.objs.size f cdv)) →
      PSs (cxOf (L2.CX P w) P w K mg base nm qual (defScope st) f cdv A outer s H E) (defBody st) (tSX ⟨mg, K⟩ (fun cls d _ H => E cls d H) body)) :
    FnOk P w K mg base (L2.CX P w) (k + 1) f fd ps (spX ⟨mg, K⟩ (fnX ps.length nm.length body) ps.length) :=
  F.okX S (fun vs H Q E h => h.1) fun cdv A outer s H vs Q E hr h => ⟨_, hbody cdv A outer s H E hr, spX_body (x := x) (qual := qual) (st := st) h⟩
end
section
variable {mg : Glob} {X : Cx} {W : WX} {k : Nat} {f C : Addr} {fd : FuncData} {ps : List Str} {g : FX} {n : Nat} {dvs : List V} {ds : List Value} {dd : List D} {x m : Str} {p pos apos : Pos} {e o : Expr} {es : List Expr} {fs : SA}
theorem run_fnX {CX : CXT} {sp : Sp} {E : XK} {pins : List (Addr × Obj)} {σ : L2.St} {H : Hp} {s : Shared} {Q : VK} {us : List Value} {vs : List V} (F : FnOk X.prog X.w X.K X.mg X.base CX k f fd ps sp) (hr : Room k X.A) (hb : Binds X.K fd ps ds) (hd : Vals dvs ds) (hx : PassesAt CX X σ E)
    (I : Inv X pins σ H s) (r : Vals vs us) (h : sp (vs ++ dvs) H Q E) : wpAny (model X.prog X.w) X.A (call (.ref f) us) (EP X pins σ Q) X.xe s := by
  have r2 : Vals (vs ++ dvs) (us ++ ds) := r.append hd
  have hl : (us ++ ds).length = ps.length := by rw [← r2.length]; exact F.len _ _ _ _ h
  refine wpAny_call (codeAny_mono (F.run X.A X.stack s H ⟨us, []⟩ (us ++ ds) (vs ++ dvs) Q E hr I.env0 (hb s us I.kIn hl) r2 h) fun r s' hq => ?_)
  cases r with
  | error e => exact hx pins H s e s' I hq
  | ok fl =>
    cases fl with
    | ret u => exact I.after hq
    | next => exact False.elim hq
    | brk => exact False.elim hq
    | cont => exact False.elim hq
/-- f(e, ..), f may raise -/
theorem d_callX (F : FnOk X.prog X.w X.K X.mg X.base (L2.CX X.prog X.w) k f fd ps (spX mg g n)) (har : ArX n g) (hr : Room k X.A) (hm : X.mg x = some (.ref f)) (hk : PySem.W.keepIn X.K (.ref f) = true) (hb : Binds X.K fd ps ds) (hd : Vals dvs ds) (hdd : Dfl mg dvs dd) (tk : Takes X W) (ha : PA X (e :: es) (tA mg fs))
    (hg : Gl X x := by rfl) (hdb : (x == ("__debug__" : Str)) = false := by decide) (he : starEach (e :: es) X.env = (false, eval e X.env) :: starEach es X.env := by rfl) (hpl : (backTo pos (starEach es X.env)).any (·.1) = false := by rfl) :
    PE X (.Call (.Name x p) (e :: es) [] pos) (tEX mg W (eCallX g dd fs)) := by
  refine ⟨fun pins s σ H Q I ⟨E0, N, c, env, st, r, st', R, q, kk⟩ => ?_⟩
  unfold eCallX at q
  split at q
  · cases q
  · rename_i xs s1 q1
    refine wpAny_Call_Name_kw (ld_glob I hg hm ?_ hdb)
    have h2 : tA mg fs σ H (fun vs H1 => spX mg g n (vs ++ dvs) H1 Q (WE W σ)) := by
      refine ⟨E0, N, c, env, st, xs, s1, R, q1, fun vs N1 c1 H1 x1 W1 r1 => ?_⟩
      have r2 := r1.append (hdd N1 c1 H1)
      refine ⟨by rw [r2.length]; exact har _ _ _ q, N1, c1, xs ++ dd, s1, r, st', W1, r2, q, ?_⟩
      cases r with
      | ok d => exact fun v N2 c2 H2 x2 W2 r3 => kk v N2 c2 H2 (x1.trans x2 R.wd) W2 r3
      | ex cn d => exact fun N2 c2 H2 cls da x2 W2 z => kk N2 c2 H2 cls da (x1.trans x2 R.wd) W2 z
    refine PySem.W.callWith_K (h₀ := X.base) I.ok.mod.kin hk (thn (ha.run pos pins s σ H _ I h2) fun us s2 ⟨vs, H1, I1, r1, q1⟩ => ⟨I1.kIn, ?_⟩) he hpl
    exact run_fnX F hr hb hd (passAt tk σ) I1 r1 q1
end
end LW

/-! LwEe: try: body / except C1 as e: .. / except C2: .. -/
namespace LW
open PySem L2 PyProof.Rows
/-- a clause: its class, the slot of its name, its suite by the error's value -/
abbrev Cl := Str × Option Nat × (D → SS)
def unO (i : Nat) : Out → Out
  | .nx e => .nx (e.set i .un)
  | .bk e => .bk (e.set i .un)
  | .ct e => .ct (e.set i .un)
  | .rt d => .rt d
def hRun (sub : Str → Str → Option Bool) (cn : Str) (d : D) : List Cl → SS
  | [] => fun _ _ => none
  | (cn', none, fh) :: r => fun env st => match sub cn cn' with
    | some true => fh .non env st
    | some false => hRun sub cn d r env st
    | none => none
  | (cn', some i, fh) :: r => fun env st => match sub cn cn' with
    | some true => if cn = cn' ∧ i < env.length then (match fh d (env.set i .un) st with
      | some (o, s1) => some (unO i o, s1)
      | none => none) else none
    | some false => hRun sub cn d r env st
    | none => none
def sTry (sub : Str → Str → Option Bool) (fb : SX) (l : List Cl) : SS := fun env st => match fb env st with
  | some (.o o, s1) => some (o, s1)
  | some (.ex cn d e1, s1) => hRun sub cn d l e1 s1
  | none => none
/-- a suite that knows the error's value -/
def tSu (mg : Glob) (i : Nat) (cn : Str) (fh : D → SS) (a : Addr) (cls : Value) (dd : Option Addr) : TS := fun De σ H => ∃ (E : En) (N : Prot) (c : List Addr) (env : Env) (st : Sto) (d : D) (o : Out) (st' : Sto),
  Rel mg E N c env st σ H ∧ σ[i]? = some (some (.ref a)) ∧ XcP mg N c H cls dd cn d ∧ fh d env st = some (o, st') ∧ PostS mg E N c H De o st'
def tES (mg : Glob) (i : Nat) (cn : Str) (a : Addr) (cls : Value) (dd : Option Addr) (f : D → SE) : TE := fun σ H Q => ∃ (E : En) (N : Prot) (c : List Addr) (env : Env) (st : Sto) (d : D) (y : D) (st' : Sto),
  Rel mg E N c env st σ H ∧ σ[i]? = some (some (.ref a)) ∧ XcP mg N c H cls dd cn d ∧ f d env st = some (y, st') ∧ ∀ v N' c' H', Ex N c H N' c' H' → Wd mg N' c' H' st' → Rep mg N' c' H' v y → Q v H'
def eK (d : D) : SE := fun _ st => some (d, st)
section
variable {mg : Glob} {X : Cx} {i : Nat} {cn : Str} {a : Addr} {oe : Obj} {cls : Value} {dd : Option Addr} {pn : List (Addr × Obj)} {e : Expr} {pos : Pos} {f : D → SE}
/-- error.value -/
theorem su_val {C : Addr} {n : Str} {p : Pos} (T : XfC X.K C) (hno : PySem.W.findIn X.K (.ref C) "value" = some none) (hC : mg.mg cn = some (.ref C)) (hz : Zc cls dd oe) (hf : ∃ vs, oe.data = .fields vs)
    (hN : X.N[i]? = some n := by rfl) (hv : Vis X.env.scope n := by first | exact Or.inl rfl | exact Or.inr (Or.inl rfl) | exact Or.inr (Or.inr rfl)) (hd : (n == ("__debug__" : Str)) = false := by decide) (hcd : (n == ("__classdict__" : Str)) = false := by decide) :
    PE (X.suite a ((a, oe) :: pn)) (.Attribute (.Name n p) "value" pos) (tES mg i cn a cls dd eK) :=
  pe_weak (pe_xf (X := X) (n := "value") T hno hz hf (pe_var (X := X.suite a ((a, oe) :: pn)) hN hv hd hcd)) fun σ H Q ⟨E, N, c, env, st, d, y, st', R, hs, z, q, k⟩ => by
    cases q
    obtain ⟨C', da, v, e1, e2, e3, e4, e5, e6⟩ := z
    have hCC : C' = C := by
      rw [hC] at e3
      cases e3
      rfl
    subst hCC
    exact ⟨_, hs, rfl, e1, da, _, v, e2, e4, by simp [List.lookup], k v N c H Ex.refl R.wd e6⟩
theorem su_set {j : Nat} {x : Str} {pos' : Pos} (hN : X.N.Nodup) (he : PE (X.suite a ((a, oe) :: pn)) e (tES mg i cn a cls dd f)) (hi : X.N[j]? = some x := by rfl) (hx : Loc X.env.scope x := by first | exact Or.inl rfl | exact Or.inr rfl) (hs : swapsWith e (some (.Name x pos')) pos.line X.env = pure false := by rfl) (hf : X.fn x = true ∨ X.env.scope.names.lookup x = some .local := by first | exact .inl rfl | exact .inr rfl) :
    PSs (X.suite a ((a, oe) :: pn)) [.Assign [.Name x pos'] e pos] (tSu mg i cn (fun d => sSet j (f d)) a cls dd) :=
  pss_one (ps_weak (ps_set (X := X.suite a ((a, oe) :: pn)) hN hi hx he hs hf) fun De σ H ⟨E, N, c, env, st, d, o, st', R, h1, z, q, p⟩ => by
    unfold sSet at q
    dsimp only at q
    split at q
    · rename_i y s1 q1
      cases q
      exact ⟨E, N, c, env, st, d, y, _, R, h1, z, q1, fun v N' c' H' x W r => p N' c' _ H' (x.sx R.wd W) ((R.ex x W).set rfl ⟨v, rfl, r⟩)⟩
    · cases q)
theorem su_ret (he : PE (X.suite a ((a, oe) :: pn)) e (tES mg i cn a cls dd f)) : PSs (X.suite a ((a, oe) :: pn)) [.Return (some e) pos] (tSu mg i cn (fun d => sRet (f d)) a cls dd) :=
  pss_one (ps_weak (ps_ret (X := X.suite a ((a, oe) :: pn)) he) fun De σ H ⟨E, N, c, env, st, d, o, st', R, h1, z, q, p⟩ => by
    unfold sRet at q
    dsimp only at q
    split at q
    · rename_i y s1 q1
      cases q
      exact ⟨E, N, c, env, st, d, y, _, R, h1, z, q1, fun v N' c' H' x W r => p c' H' v ((R.ex x W).fin r)⟩
    · cases q)
/-- [e] -/
theorem su_l1 (he : PE (X.suite a ((a, oe) :: pn)) e (tES mg i cn a cls dd f)) (hst : starEach (e :: []) X.env = (false, eval e X.env) :: starEach [] X.env := by rfl) :
    PE (X.suite a ((a, oe) :: pn)) (.List [e] pos) (tES mg i cn a cls dd fun d => eL (fun env st => (f d env st).map fun p => ([p.1], p.2))) :=
  pe_weak (pe_lst (pa_cons he pa_nil hst)) fun σ H Q ⟨E, N, c, env, st, d, y, st', R, h1, z, q, k⟩ => by
    unfold eL at q
    cases qf : f d env st with
    | none => simp only [qf, Option.map_none] at q; cases q
    | some p =>
      obtain ⟨y1, s1⟩ := p
      simp only [qf, Option.map_some] at q
      cases q
      refine ⟨E, N, c, env, st, d, y1, _, R, h1, z, qf, fun v N2 c2 H2 x2 W2 r2 => ⟨by show 1 ≤ sizeLine; rw [sizeLine_eq]; omega, fun b hb => ?_⟩⟩
      have xa := Ex.laid (o := .lst [v]) W2 hb
      exact k _ _ _ _ (x2.trans xa R.wd) (W2.laid hb) (.lst upd_same (W2.nsome hb) (.cons (r2.tr (xa.tr W2)) .nil))
/-- ["s", e] -/
theorem su_l2 {s : Str} {j : Nat} {p1 : Pos} (he : PE (X.suite a ((a, oe) :: pn)) e (tES mg i cn a cls dd f)) (hst : starEach (e :: []) X.env = (false, eval e X.env) :: starEach [] X.env := by rfl) :
    PE (X.suite a ((a, oe) :: pn)) (.List [.Constant (.str s) j p1, e] pos) (tES mg i cn a cls dd fun d => eL (fun env st => (f d env st).map fun p => ([.str s, p.1], p.2))) :=
  pe_weak (pe_lst (pa_cons pe_str (pa_cons he pa_nil hst))) fun σ H Q ⟨E, N, c, env, st, d, y, st', R, h1, z, q, k⟩ => by
    unfold eL at q
    cases qf : f d env st with
    | none => simp only [qf, Option.map_none] at q; cases q
    | some p =>
      obtain ⟨y1, s1⟩ := p
      simp only [qf, Option.map_some] at q
      cases q
      refine ⟨E, N, c, env, st, d, y1, _, R, h1, z, qf, fun v N2 c2 H2 x2 W2 r2 => ⟨by show 2 ≤ sizeLine; rw [sizeLine_eq]; omega, fun b hb => ?_⟩⟩
      have xa := Ex.laid (o := .lst [.str s, v]) W2 hb
      exact k _ _ _ _ (x2.trans xa R.wd) (W2.laid hb) (.lst upd_same (W2.nsome hb) (.cons (.str s) (.cons (r2.tr (xa.tr W2)) .nil)))
end
/-! ### the clauses -/
/-- what the clauses read: the kit's list of a list of mirrors -/
def clT (mg : Glob) : List (Addr × Cl) → List (Value × Option Nat × (Addr → Value → Option Addr → TS))
  | [] => []
  | (C, cn, none, fh) :: r => (.ref C, none, fun _ _ _ => tS mg (fh .non)) :: clT mg r
  | (C, cn, some i, fh) :: r => (.ref C, some i, tSu mg i cn fh) :: clT mg r
section
variable {mg : Glob} {X : Cx} {sub : Str → Str → Option Bool}
theorem hds_run {E : En} {cls : Value} {dd : Option Addr} {cn : Str} {d : D} {De : Ends} (hsub : ∀ cn cn' b C C', sub cn cn' = some b → mg.mg cn = some (.ref C) → mg.mg cn' = some (.ref C') → PySem.W.exmOne X.K (.ref C) (.ref C') = some b) {N : Prot} {c : List Addr} {H : Hp} (z : XcP mg N c H cls dd cn d) :
    ∀ {l : List (Addr × Cl)} {env : Env} {st : Sto} {σ : L2.St} {o : Out} {st' : Sto}, (∀ p ∈ l, mg.mg p.2.1 = some (.ref p.1)) → Rel mg E N c env st σ H → hRun sub cn d (l.map (·.2)) env st = some (o, st') → PostS mg E N c H De o st' → wManyN X.K (fun _ _ _ _ => False) De (clT mg l) cls dd σ H
  | [], env, st, σ, o, st', _, R, q, p => by cases q
  | (C', cn', oi, fh) :: r, env, st, σ, o, st', hm, R, q, p => by
    have hm1 : mg.mg cn' = some (.ref C') := hm _ (List.mem_cons_self ..)
    have hm2 := fun y hy => hm y (List.mem_cons_of_mem _ hy)
    obtain ⟨C, da, v, rfl, rfl, e3, e4, e5, e6⟩ := id z
    cases oi with
    | none =>
      unfold clT wManyN
      change (match sub cn cn' with
        | some true => fh .non env st
        | some false => hRun sub cn d (r.map (·.2)) env st
        | none => none) = some (o, st') at q
      split at q
      · rename_i hb
        exact ⟨true, hsub _ _ _ _ _ hb e3 hm1, fun _ a ha => tS_def.mpr ⟨E, N, c, env, st, o, st', R, q, p⟩, fun h => Bool.noConfusion h⟩
      · rename_i hb
        exact ⟨false, hsub _ _ _ _ _ hb e3 hm1, (fun h => Bool.noConfusion h), fun _ => hds_run hsub z hm2 R q p⟩
      · cases q
    | some i =>
      unfold clT wManyN
      change (match sub cn cn' with
        | some true => if cn = cn' ∧ i < env.length then (match fh d (env.set i .un) st with
          | some (o, s1) => some (unO i o, s1)
          | none => none) else none
        | some false => hRun sub cn d (r.map (·.2)) env st
        | none => none) = some (o, st') at q
      split at q
      · rename_i hb
        refine ⟨true, hsub _ _ _ _ _ hb e3 hm1, fun _ a ha => ?_, fun h => Bool.noConfusion h⟩
        split at q
        · rename_i hc
          obtain ⟨rfl, hi⟩ := hc
          split at q
          · rename_i o1 s1 q1
            cases q
            refine ⟨E, N, c, env.set i .un, st, d, o1, _, R.set rfl trivial, by rw [List.getElem?_set_self (by rw [R.len]; exact hi)], z, q1, ?_⟩
            cases o1 with
            | nx e1 => exact fun N2 c2 σ2 H2 x2 R2 => p N2 c2 _ H2 x2 (R2.wipe [i])
            | bk e1 => exact fun N2 c2 σ2 H2 x2 R2 => p N2 c2 _ H2 x2 (R2.wipe [i])
            | ct e1 => exact fun N2 c2 σ2 H2 x2 R2 => p N2 c2 _ H2 x2 (R2.wipe [i])
            | rt d1 => exact p
          · cases q
        · cases q
      · rename_i hb
        exact ⟨false, hsub _ _ _ _ _ hb e3 hm1, (fun h => Bool.noConfusion h), fun _ => hds_run hsub z hm2 R q p⟩
      · cases q
theorem s_try {body : List Stmt} {h₀ : ExceptHandler} {hds : List ExceptHandler} {pos : Pos} {fb : SX} {l : List (Addr × Cl)} (hsub : ∀ cn cn' b C C', sub cn cn' = some b → mg.mg cn = some (.ref C) → mg.mg cn' = some (.ref C') → PySem.W.exmOne X.K (.ref C) (.ref C') = some b)
    (hl : ∀ p ∈ l, mg.mg p.2.1 = some (.ref p.1)) (hN : X.N.Nodup) (hs : X.stack = X.env :: X.outer) (hf : X.env.frame = some X.env.locals)
    (hb : ∀ (W : WX) (pn : List (Addr × Obj)) (xe : Value → Shared → Prop), Takes (X.tr pn xe) W → PassesOwn (model X.prog X.w) X.A X.env xe → PSs (X.tr pn xe) body (tSX mg W fb))
    (hh : HdsN X (h₀ :: hds) (clT mg l)) : PS X (.Try body (h₀ :: hds) [] [] pos) (tS mg (sTry sub fb (l.map (·.2)))) :=
  ps_weak (ps_try_manyN (Wout := fun _ _ _ _ => False) (tb := fun W => tSX mg W fb) hN hs hf takes_none5 hb hh) fun De σ H h => by
    obtain ⟨E, N, c, env, st, o, st', R, q, p⟩ := tS_def.mp h
    unfold sTry at q
    split at q
    · rename_i o1 s1 q1
      cases q
      exact ⟨E, N, c, env, st, _, _, R, q1, p⟩
    · rename_i cn d e1 s1 q1
      exact ⟨E, N, c, env, st, _, _, R, q1, fun N2 c2 σ2 H2 cls dd x2 R2 z => hds_run hsub z hl R2 q (p.from x2)⟩
    · cases q
end
end LW

/-! LwEf: short words: defs that may raise, exception classes with their facts. -/
namespace LW
open PySem L2 PyProof.Rows
/-- the exception class cn -/
def LF (P : Program) (K : PySem.W.Frag) (mg : Str → Option Value) (cn : Str) : Prop := ∃ C fI qual, mg cn = some (.ref C) ∧ PySem.W.keepIn K (.ref C) = true ∧ PySem.LeafX.LeafTxt P K C fI qual ∧ XfC K C ∧ PySem.W.findIn K (.ref C) "value" = some none
section
variable {P : Program} {K : PySem.W.Frag} {mg : Str → Option Value} {h : Heap} {cn : Str} {C L fI N N' cc cda oT : Addr} {nm q nm' q' qual file : Str} {bs bm sub bs' sub' : List Value} {sn sn' : List Str} {hd' ab' : Bool} {col' : Option Bool} {dd' : Option Addr} {j0 j1 j2 j3 j5 : Option Value} {nw' : String} {ab : Bool} {col : Option Bool} {dd od an cdd cld odT : Option Addr} {k0 k1 k2 k3 k5 : Option Value}
  {oc kV doc pm ct ccl cl ocT : Value} {osl ccs csl oslT : Array (Option Value)} {vs : Array Value} {tf : Tok} {nt : Nat} {p1 p2 p3 a1 a2 a3 a4 b1 b2 b3 b4 : Pos}
open PySem.W PySem.LeafX PySem.HandSPX in
theorem lf_mk (X : K.In h) (G : h.Ns mainGlobals mg) (a : nsIn K mainGlobals cn = some (some (.ref C)))
    (l : K.lookup C = some (excClassObj nm q C N bs (.ref L :: bm) true sn sub ab col dd k0 k1 k2 k3 k5 "ValueError.__new__"))
    (lL : K.lookup L = some (excClassObj nm' q' L N' bs' bm hd' sn' sub' ab' col' dd' j0 j1 j2 j3 j5 nw')) (fL : findIn K (.ref L) "__init__" = some (some (.builtin "ValueError.__init__")))
    (sa : findIn K (.ref C) "__setattr__" = some (some (.builtin "object.__setattr__"))) (ga : findIn K (.ref C) "__getattribute__" = some (some (.builtin "BaseException.__getattribute__"))) (gg : findIn K (.ref C) "__getattr__" = some none)
    (nv : findIn K (.ref C) "value" = some none) (iC : findIn K (.ref C) "__init__" = some (some (.ref fI))) (tC : typeIn K (.ref fI) = some (.type "function")) (kc : keepIn K (.ref C) = true) (ex : subIn K (.ref C) (.type "BaseException") = some true)
    (va : subIn K (.ref C) (.type "ValueError") = some true) (ty : typeIn K (.ref C) = some (.type "type")) (op : nsIn K cStatics "thirdparty.any" = some none) (mr : mroIn K C (.ref C) = some true) (hd : hasDictIn K C = true)
    (lf : K.lookup fI = some ⟨oc, od, .func (PySem.W.fnX "__init__" qual (iA ⟨p1, p2, p3, a1, a2, a3, a4, b1, b2, b3, b4⟩) (iB ⟨p1, p2, p3, a1, a2, a3, a4, b1, b2, b3, b4⟩) iS [("__class__", cc)] (.ref oT) kV doc pm an (.ref cda) ct), osl⟩)
    (lc : codeIn K (.ref cda) qual = true) (lT : K.lookup oT = some ⟨ocT, odT, .seq #[.none] nt, oslT⟩) (ld : K.lookup cda = some ⟨ccl, cdd, .fields vs, ccs⟩) (lcc : K.lookup cc = some ⟨cl, cld, .cell (some (.ref C)), csl⟩)
    (hr : refsVE (.ref L :: bm) = true) (hv : vs[2]? = some (.str file tf)) (hfile : ((P.main.file : Str) == file) = true) (hline : (a3.endLine == a4.line) = true) (top : (P.main.scope.names.lookup ("super" : Str)).isSome = false) : LF P K mg cn :=
  have al : alongIn K "__init__" (.ref L :: bm) = some (some (.builtin "ValueError.__init__")) := by
    have e : findIn K (.ref L) "__init__" = (match K.lookup L with
      | some ⟨_, _, .cls cd, _⟩ => alongIn K "__init__" cd.mro
      | _ => none) := rfl
    rw [e, lL] at fL
    exact fL
  have hfn : ∃ (oc T : Value) (od : Option Addr) (kV doc pm ct : Value) (an : Option Addr) (osl : Array (Option Value)) (p : Ps) (cc cda : Addr) (oT : Addr) (ot : Obj) (it : Value) (nt : Nat) (vs : Array Value) (file : Str) (tf : Tok)
      (ccl cl : Value) (cdd cld : Option Addr) (ccs csl : Array (Option Value)),
    K.lookup fI = some ⟨oc, od, .func (PySem.W.fnX "__init__" qual (iA p) (iB p) iS [("__class__", cc)] (.ref oT) kV doc pm an (.ref cda) ct), osl⟩ ∧ codeIn K (.ref cda) qual = true ∧
    K.lookup oT = some ot ∧ ot.data = .seq #[it] nt ∧ it = .none ∧
    K.lookup cda = some ⟨ccl, cdd, .fields vs, ccs⟩ ∧ vs[2]? = some (.str file tf) ∧ ((P.main.file : Str) == file) = true ∧
    K.lookup cc = some ⟨cl, cld, .cell (some (.ref C)), csl⟩ ∧ (p.a3.endLine == p.a4.line) = true :=
    ⟨oc, .none, od, kV, doc, pm, ct, an, osl, ⟨p1, p2, p3, a1, a2, a3, a4, b1, b2, b3, b4⟩, cc, cda, oT, _, .none, nt, vs, file, tf, ccl, cl, cdd, cld, ccs, csl, lf, lc, lT, rfl, rfl, ld, hv, hfile, lcc, hline⟩
  ⟨C, fI, qual, mg_of X G a, kc, ⟨⟨nm, q, N, bs, _, sn, sub, ab, col, dd, k0, k1, k2, k3, k5, l, hr, al⟩, sa, nv, iC, tC, ex, mr, va, ty, op, hfn, top⟩, ⟨ga, gg, ex, hd⟩, nv⟩
end
section
variable (P : Program) (w : World) (K : PySem.W.Frag) (mg : Str → Option Value) (base : Heap)
/-- the def x, that may raise, keeps the promise of g -/
def OkX (k : Nat) (x : Str) (ps : List Str) (n : Nat) (dvs : List V) (g : FX) : Prop := ∃ f fd ds, mg x = some (.ref f) ∧ PySem.W.keepIn K (.ref f) = true ∧ FnOk P w K mg base (L2.CX P w) k f fd ps (spX ⟨mg, K⟩ g ps.length) ∧ Vals dvs ds ∧ Binds K fd ps ds ∧ ArX ps.length g
end
section
variable {P : Program} {w : World} {K : PySem.W.Frag} {mg : Str → Option Value} {base : Heap} {k : Nat} {x : Str} {st : Stmt} {nm ps : List Str} {body : SX}
theorem okX_mk (F : FT K mg x st) (S : FnScope nm ps (defScope st))
    (hb : ∀ (kV doc pm : Value) (an : Option Addr) (cdv ct : Value) (us : List Value), us.length = ps.length → bindArgs (PySem.W.fnOf x x (defArgs st) (defBody st) (defScope st) .none kV doc pm an cdv ct) ⟨us, []⟩ = pure (ps.zip us))
    (hbody : ∀ (f : Addr) (cdv : Value) (A : Around) (outer : List PySem.Env) (s : Shared) (H : Hp) (E : XK), Room k (A.deeper (envOfC x (defScope st) s.heap.objs.size f cdv)) →
      Takes (cxOf (L2.CX P w) P w K mg base nm x (defScope st) f cdv A outer s H E) (fun cls d _ H => E cls d H) →
      PSs (cxOf (L2.CX P w) P w K mg base nm x (defScope st) f cdv A outer s H E) (defBody st) (tSX ⟨mg, K⟩ (fun cls d _ H => E cls d H) body)) : OkX P w K mg base (k + 1) x ps ps.length [] (fnX ps.length nm.length body) := by
  obtain ⟨f, fd, hm, F⟩ := F
  exact ⟨f, fd, [], hm, F.kp, fn_X F S fun cdv A outer s H E hr => hbody f cdv A outer s H E hr (takes_of rfl rfl rfl rfl), .nil, F.binds hb, fnX_ar⟩
end
section
variable {mg : Glob} {X : Cx} {W : WX} {k n : Nat} {ps : List Str} {g : FX} {dvs : List V} {dd : List D} {x : Str} {p pos : Pos} {e : Expr} {es : List Expr} {fs : SA}
/-- f(e, ..) -/
theorem x_call (F : OkX X.prog X.w X.K X.mg X.base k x ps n dvs g) (hr : Room k X.A) (hdd : Dfl mg dvs dd) (tk : Takes X W) (ha : PA X (e :: es) (tA mg fs)) (hM : mg = ⟨X.mg, X.K⟩ := by rfl)
    (hg : Gl X x := by rfl) (hdb : (x == ("__debug__" : Str)) = false := by decide) (he : starEach (e :: es) X.env = (false, eval e X.env) :: starEach es X.env := by rfl) (hpl : (backTo pos (starEach es X.env)).any (·.1) = false := by rfl) :
    PE X (.Call (.Name x p) (e :: es) [] pos) (tEX mg W (eCallX g dd fs)) := by
  subst hM
  obtain ⟨f, fd, ds, hm, hk, F, hv, hb, har⟩ := F
  exact d_callX F har hr hm hk hb hv hdd tk ha hg hdb he hpl
/-- raise cn(e) -/
theorem x_rs {cn : Str} {pos2 : Pos} {fv : SE} (T : LF X.prog X.K X.mg cn) (hc : X.calm = true) (hsup : X.mg "super" = none) (hr : Room k X.A) (tk : Takes X W) (he : PE X e (tE mg fv))
    (hM : X.mg = mg.mg := by rfl) (hg : Gl X cn := by rfl) (hdb : (cn == ("__debug__" : Str)) = false := by decide)
    (hst : starEach (e :: []) X.env = (false, eval e X.env) :: starEach [] X.env := by rfl) (hpl : (backTo pos (starEach [] X.env)).any (·.1) = false := by rfl) :
    PS X (.Raise (some (.Call (.Name cn p) [e] [] pos)) none pos2) (tSX mg W (xRaise cn fv)) := by
  obtain ⟨C, fI, qual, gC, kC, L, _, _⟩ := T
  exact x_raise hc L gC kC hsup hr tk he hM hg hdb hst hpl
end
/-! ### which class lies below which -/
def subT : List (Str × Str × Bool) → Str → Str → Option Bool
  | [], _, _ => none
  | (a, b, r) :: l, cn, cn' => if a = cn ∧ b = cn' then some r else subT l cn cn'
def EM (K : PySem.W.Frag) (mg : Str → Option Value) (tbl : List (Str × Str × Bool)) : Prop := ∀ cn cn' b C C', subT tbl cn cn' = some b → mg cn = some (.ref C) → mg cn' = some (.ref C') → PySem.W.exmOne K (.ref C) (.ref C') = some b
section
variable {K : PySem.W.Frag} {mg : Str → Option Value} {h : Heap} {cn cn' : Str} {b : Bool} {C C' : Addr} {tbl : List (Str × Str × Bool)}
theorem em_nil : EM K mg [] := fun _ _ _ _ _ h => by cases h
theorem em_cons (X : K.In h) (G : h.Ns mainGlobals mg) (a : PySem.W.nsIn K mainGlobals cn = some (some (.ref C))) (b' : PySem.W.nsIn K mainGlobals cn' = some (some (.ref C'))) (h1 : PySem.W.subIn K (.ref C') (.type "BaseException") = some true) (h2 : PySem.W.isClsIn K C' = true)
    (h3 : PySem.W.typeIn K (.ref C') = some (.type "type")) (h4 : PySem.W.subIn K (.ref C) (.ref C') = some b) (r : EM K mg tbl) : EM K mg ((cn, cn', b) :: tbl) := fun x y d D D' e g g' => by
  unfold subT at e
  split at e
  · rename_i hc
    obtain ⟨rfl, rfl⟩ := hc
    cases e
    have q1 := (PySem.W.mg_of X G a).symm.trans g
    have q2 := (PySem.W.mg_of X G b').symm.trans g'
    cases q1
    cases q2
    have e1 : (PySem.W.subIn K (.ref C') (.type "BaseException") == some true) = true := by rw [h1] <;> rfl
    have e2 : ((PySem.W.clsIn K C').isSome && PySem.W.typeIn K (.ref C') == some (.type "type")) = true := by
      have h2' : (PySem.W.clsIn K C').isSome = true := h2
      rw [h2', h3] <;> rfl
    show (if (PySem.W.subIn K (.ref C') (.type "BaseException") == some true) = true then (if ((PySem.W.clsIn K C').isSome && PySem.W.typeIn K (.ref C') == some (.type "type")) = true then PySem.W.subIn K (.ref C) (.ref C') else none) else none) = some b
    rw [if_pos e1, if_pos e2]
    exact h4
  · exact r x y d D D' e g g'
end
section
variable {mg : Glob} {X : Cx} {cn n : Str} {i : Nat} {C : Addr} {fh : D → SS} {b₀ : Stmt} {suite : List Stmt} {np pos' : Pos} {hds : List ExceptHandler} {l : List (Addr × Cl)}
theorem hd_nil : HdsN X [] (clT mg []) := .nil
theorem hd_as (g : X.mg cn = some (.ref C)) (hsu : ∀ (a : Addr) (oe : Obj) (cls : Value) (d : Option Addr) (pn : List (Addr × Obj)), Zc cls d oe → (∃ vs, oe.data = .fields vs) → PSs (X.suite a ((a, oe) :: pn)) (b₀ :: suite) (tSu mg i cn fh a cls d))
    (r : HdsN X hds (clT mg l)) (hi : X.N[i]? = some n := by rfl) (hln : X.env.kindOf n = some .local := by rfl) (hg : Gl X cn := by rfl) (hdb : (cn == ("__debug__" : Str)) = false := by decide) :
    HdsN X (.ExceptHandler (some (.Name cn np)) (some n) (b₀ :: suite) pos' :: hds) (clT mg ((C, cn, some i, fh) :: l)) := .consAs hi hln ⟨hg, hdb, .inl g⟩ hsu r
theorem hd_no (g : X.mg cn = some (.ref C)) (hsu : ∀ (a : Addr) (oe : Obj) (pn : List (Addr × Obj)), PSs (X.suite a ((a, oe) :: pn)) (b₀ :: suite) (tS mg (fh .non)))
    (r : HdsN X hds (clT mg l)) (hg : Gl X cn := by rfl) (hdb : (cn == ("__debug__" : Str)) = false := by decide) :
    HdsN X (.ExceptHandler (some (.Name cn np)) none (b₀ :: suite) pos' :: hds) (clT mg ((C, cn, none, fh) :: l)) := .cons ⟨hg, hdb, .inl g⟩ (fun a oe _ _ pn _ _ => hsu a oe pn) r
end
end LW

/-! LwEg: a thing of any kind in a list of tuples of ints; len(set(tuples of ints)). -/
namespace PySem.SeqAt
open PySem
section
theorem tuple_eq_declines_dictL (l b : Addr) (items : Array Value) (n : Nat) (dd dd2 : Option Addr) (sl sl2 : Array (Option Value)) (dt : Data) :
    Meets (Builtin.«tuple.__eq__» ⟨[.ref l, .ref b], []⟩) (fun _ R s => s.heap.get? l = some { cls := .type "tuple", dict := dd, data := .seq items n, slots := sl } ∧ s.heap.get? b = some { cls := .type "dict", dict := dd2, data := dt, slots := sl2 } ∧ R (.ok (.ret .notImplemented)) s) :=
  .of_wp fun prog w A R s h => by obtain ⟨hp, g, d, tk, os⟩ := s; obtain ⟨hl, hb, h⟩ := h; have f1 := F.sub_dict_tuple; wp_walk using wpAny_loadPart' hl, wpAny_loadPart' hb; exact ⟨_, rfl, h⟩
theorem dict_eq_declines_tupleL (b l : Addr) (items : Array Value) (n : Nat) (dd dd2 : Option Addr) (sl sl2 : Array (Option Value)) (es : Array DictEntry) (ep : Nat) :
    Meets (Builtin.«dict.__eq__» ⟨[.ref b, .ref l], []⟩) (fun _ R s => s.heap.get? b = some { cls := .type "dict", dict := dd2, data := .dict es ep, slots := sl2 } ∧ s.heap.get? l = some { cls := .type "tuple", dict := dd, data := .seq items n, slots := sl } ∧ R (.ok (.ret .notImplemented)) s) :=
  .of_wp fun prog w A R s h => by obtain ⟨hp, g, d, tk, os⟩ := s; obtain ⟨hb, hl, h⟩ := h; have f1 := F.sub_tuple_dict; wp_walk using wpAny_loadPart' hl, wpAny_loadPart' hb; exact ⟨_, rfl, h⟩
theorem int_eq_declines_dictL (b : Int) (u : Tok) (l : Addr) (c : Value) (dt : Data) (dd : Option Addr) (sl : Array (Option Value)) (es : Array DictEntry) (ep : Nat) :
    Meets (Builtin.«int.__eq__» ⟨[.int b u, .ref l], []⟩) (fun _ R s => s.heap.get? l = some { cls := c, dict := dd, data := .dict es ep, slots := sl } ∧ R (.ok (.ret .notImplemented)) s) :=
  .of_wp fun prog w A R s h => by obtain ⟨hp, g, d, tk, os⟩ := s; obtain ⟨hl, h⟩ := h; wp_walk using wpAny_loadPart' hl, wpAny_load hl; exact ⟨_, rfl, h⟩
theorem dict_eq_declines_intL (l : Addr) (dd : Option Addr) (sl : Array (Option Value)) (es : Array DictEntry) (ep : Nat) (b : Int) (u : Tok) :
    Meets (Builtin.«dict.__eq__» ⟨[.ref l, .int b u], []⟩) (fun _ R s => s.heap.get? l = some { cls := .type "dict", dict := dd, data := .dict es ep, slots := sl } ∧ R (.ok (.ret .notImplemented)) s) :=
  .of_wp fun prog w A R s h => by obtain ⟨hp, g, d, tk, os⟩ := s; obtain ⟨hl, h⟩ := h; have f1 := F.sub_int_dict; wp_walk using wpAny_loadPart' hl, wpAny_load hl; exact ⟨_, rfl, h⟩
end
end PySem.SeqAt
namespace PySem.SeqAt
open PySem
section
variable {A : Around} {s : Shared}
def IsD (h : Heap) (b : Addr) : Prop := ∃ o es ep, h.get? b = some o ∧ o.cls = .type "dict" ∧ o.data = .dict es ep
theorem RcAt.tuple_dictL {l b : Addr} {items : Array Value} (hl : s.heap.IsTuple l items) (hb : IsD s.heap b) (hu : A.units < cLine) : RcAt A s (.ref l) (.ref b) false := fun prog w E Q h => by
  obtain ⟨⟨cls, dd, data, sl⟩, ho, hc, n, hd⟩ := id hl
  obtain ⟨⟨cls2, dd2, data2, sl2⟩, es, ep, ho2, hc2, hd2⟩ := id hb
  simp only at hc hd hc2 hd2
  subst hc hd hc2 hd2
  have hne : l ≠ b := fun z => by
    subst z
    exact absurd (congrArg Obj.cls (Option.some.inj (ho.symm.trans ho2))) (by simp)
  exact (rc_eq_decline_or (k := false) ⟨_, ho, rfl⟩ ⟨_, ho2, rfl⟩ (by decide) F.sub_dict_tuple F.slot_tuple_eq F.slot_dict_eq
    (fun _ hq => call_meets F.slot_tuple_eq ⟨_, ho, rfl⟩ F.entry_tuple_eq (F.args_tuple_eq_2 _ _) (tuple_eq_declines_dictL l b items n dd dd2 sl sl2 _) ⟨ho, ho2, hq⟩)
    (fun _ hq => call_meets F.slot_dict_eq ⟨_, ho2, rfl⟩ F.entry_dict_eq (F.args_dict_eq_2 _ _) (dict_eq_declines_tupleL b l items n dd dd2 sl sl2 es ep) ⟨ho2, ho, hq⟩)
    (fun _ hq => wpAny_isSame_ref_other' hne ho ho2 (by simp) hq) (.inr hu) h)
theorem RcAt.int_dictL {l : Addr} (b : Int) (u : Tok) (hl : IsD s.heap l) (hu : A.units < cLine) : RcAt A s (.int b u) (.ref l) false := fun prog w E Q h => by
  obtain ⟨⟨cls, dd, data, sl⟩, es, ep, ho, hc, hd⟩ := id hl
  simp only at hc hd
  subst hc hd
  exact rc_eq_decline_or (k := false) (typeIs_int s b u) ⟨_, ho, rfl⟩ (by decide) F.sub_dict_int F.slot_int_eq F.slot_dict_eq
    (fun _ hq => call_meets F.slot_int_eq (typeIs_int s b u) F.entry_int_eq (F.args_int_eq_2 _ _) (int_eq_declines_dictL b u l (.type "dict") (.dict es ep) dd sl es ep) ⟨ho, hq⟩)
    (fun _ hq => call_meets F.slot_dict_eq ⟨_, ho, rfl⟩ F.entry_dict_eq (F.args_dict_eq_2 _ _) (dict_eq_declines_intL l dd sl es ep b u) ⟨ho, hq⟩)
    (fun _ hq => wpAny_of_eq (rfl : isSame (.int b u) (.ref l) = pure false) hq) (.inr hu) h
theorem EqAt.int_dictL {l : Addr} (b : Int) (u : Tok) (hl : IsD s.heap l) (hu : A.units < cLine) : EqAt A s (.int b u) (.ref l) false := fun prog w E Q h => by
  unfold eqBool
  refine wpAny_holding ?_
  refine wpAny_ite_split (fun hab => absurd (eq_of_beq hab) nofun) (fun _ => ?_)
  exact wpAny_bind (RcAt.int_dictL b u hl hu prog w E _ (wpAny_truthy_bool h))
theorem EqAt.tuple_dictL {l b : Addr} {items : Array Value} (hl : s.heap.IsTuple l items) (hb : IsD s.heap b) (hu : A.units < cLine) : EqAt A s (.ref l) (.ref b) false := by
  refine .of_refs (fun z => ?_) (.tuple_dictL hl hb hu)
  subst z
  obtain ⟨o, ho, hc, _⟩ := hl
  obtain ⟨o2, es, ep, ho2, hc2, _⟩ := hb
  rw [ho] at ho2
  cases ho2
  rw [hc] at hc2
  exact absurd hc2 (by simp)
end
end PySem.SeqAt
namespace L2
open PySem PySem.Spec PyProof.Rows
/-- what an int is to a thing -/
def E0i (K : PySem.W.Frag) (H : Hp) (n : Int) (x : V) (b : Bool) : Prop :=
  (∃ m, x = .int m ∧ b = (n == m)) ∨ (∃ c : Bool, x = .bl c ∧ b = (n == (if c then 1 else 0))) ∨ (b = false ∧ (x = .non ∨ (∃ z, x = .str z) ∨ ∃ a, x = .ref a ∧ ((∃ ys, SqT K H a ys) ∨ (∃ ys, SqL K H a ys) ∨ ∃ kvs, Rd H a (.dK kvs))))
/-- what a tuple of ints is to a thing -/
def ETi (K : PySem.W.Frag) (H : Hp) (ns : List Int) (x : V) (b : Bool) : Prop :=
  (∃ a ys e, x = .ref a ∧ SqT K H a ys ∧ (∀ j n y, ns[j]? = some n → ys[j]? = some y → E0i K H n y (e j)) ∧ b = ((List.range (min ns.length ys.length)).all e && ns.length == ys.length)) ∨
  (b = false ∧ (x = .non ∨ (∃ c, x = .bl c) ∨ (∃ m, x = .int m) ∨ (∃ z, x = .str z) ∨ ∃ a, x = .ref a ∧ ((∃ ys, SqL K H a ys) ∨ ∃ kvs, Rd H a (.dK kvs))))
theorem pgetR {α β : Type} {F : α → β → Prop} : ∀ {l₁ : List α} {l₂ : List β} {j : Nat} {x : β}, Paired F l₁ l₂ → l₂[j]? = some x → ∃ y, l₁[j]? = some y ∧ F y x
  | _, _, _, _, .nil, e => by simp at e
  | _, _, 0, x, .cons h _, e => by simp at e; subst e; exact ⟨_, rfl, h⟩
  | _, _, j + 1, x, .cons _ t, e => by
    obtain ⟨y, h1, h2⟩ := pgetR (j := j) (x := x) t (by simpa using e)
    exact ⟨y, by simpa using h1, h2⟩
section
variable {X : Cx} {pins : List (Addr × Obj)} {σ : St} {H : Hp} {s : Shared}
theorem isD_of (I : Inv X pins σ H s) {a : Addr} {kvs : List (Key × V)} (h : Rd H a (.dK kvs)) : SeqAt.IsD s.heap a := by
  obtain ⟨_, _, vs, _, o, es, ep, ho, hx, hd, _⟩ := dk_rd I.hok h
  exact ⟨o, es, ep, ho, hx.1, hd⟩
theorem plainL_is {h : Heap} {a : Addr} {its : Array Value} (p : PlainL h a its) : h.IsList a its := by
  obtain ⟨o, n, h1, h2, _, h4⟩ := p
  exact ⟨o, h1, h2, n, h4⟩
theorem e0_run (I : Inv X pins σ H s) {A : Around} (hu : A.units < cLine) {n : Int} {t : Tok} {x : V} {u : Value} {b : Bool} (h : E0i X.K H n x b) (r : RelV x u) : SeqAt.EqAt A s (.int n t) u b := by
  rcases h with ⟨m, rfl, rfl⟩ | ⟨c, rfl, rfl⟩ | ⟨rfl, rfl | ⟨z, rfl⟩ | ⟨a, rfl, ⟨ys, h⟩ | ⟨ys, h⟩ | ⟨kvs, h⟩⟩⟩
  · obtain ⟨t', rfl⟩ := r
    exact .int_int n t m t'
  · obtain rfl : u = .bool c := r
    exact .int_bool n t c
  · obtain rfl : u = .none := r
    exact .int_none n t
  · obtain ⟨t', rfl⟩ := r
    exact .int_str n t z t'
  · obtain rfl : u = .ref a := r
    obtain ⟨its, _, hp, _⟩ := I.tuple h
    exact .int_tuple n t hp hu
  · obtain rfl : u = .ref a := r
    obtain ⟨its, _, hp, _⟩ := I.list h
    exact .int_list n t (plainL_is hp) hu
  · obtain rfl : u = .ref a := r
    exact .int_dictL n t (isD_of I h) hu
theorem et_run (I : Inv X pins σ H s) {A : Around} (hu : A.units + 1 < cLine) {ns : List Int} {l : Addr} (hl : SqT X.K H l (ns.map V.int)) {x : V} {u : Value} {b : Bool} (h : ETi X.K H ns x b) (r : RelV x u) : SeqAt.EqAt A s (.ref l) u b := by
  obtain ⟨its, rv, hp, _⟩ := I.tuple hl
  rcases h with ⟨a, ys, e, rfl, hy, he, rfl⟩ | ⟨rfl, rfl | ⟨c, rfl⟩ | ⟨m, rfl⟩ | ⟨z, rfl⟩ | ⟨a, rfl, ⟨ys, h⟩ | ⟨kvs, h⟩⟩⟩
  · obtain rfl : u = .ref a := r
    obtain ⟨its2, rv2, hp2, _⟩ := I.tuple hy
    have l1 : its.length = ns.length := by rw [← rv.length, List.length_map]
    have l2 : its2.length = ys.length := rv2.length.symm
    by_cases q : l = a
    · subst q
      have hk := I.tuple_inj hl hy
      subst hk
      have : ((List.range (min ns.length (ns.map V.int).length)).all e && ns.length == (ns.map V.int).length) = true := by
        rw [List.length_map, Nat.min_self]
        simp only [beq_self_eq_true, Bool.and_true]
        rw [List.all_eq_true]
        intro j hj
        have hj' : j < ns.length := List.mem_range.mp hj
        have z := he j ns[j] (.int ns[j]) (List.getElem?_eq_getElem hj') (by rw [List.getElem?_map, List.getElem?_eq_getElem hj']; rfl)
        rcases z with ⟨m, e1, e2⟩ | ⟨c, e1, _⟩ | ⟨_, e1 | ⟨z, e1⟩ | ⟨a', e1, _⟩⟩
        · cases e1
          rw [e2]
          simp
        · cases e1
        · cases e1
        · cases e1
        · cases e1
      rw [this]
      exact .same _
    · have rc := SeqAt.RcAt.tuples (A := A) (e := e) hp hp2 (by omega) (fun j h1 h2 => by
        have h1' : j < its.length := by simpa using h1
        have h2' : j < its2.length := by simpa using h2
        obtain ⟨v, ev, rvj⟩ := pgetR rv (List.getElem?_eq_getElem h1')
        obtain ⟨y, ey, ryj⟩ := pgetR rv2 (List.getElem?_eq_getElem h2')
        rw [List.getElem?_map] at ev
        cases hn : ns[j]? with
        | none => rw [hn] at ev; cases ev
        | some n =>
          rw [hn] at ev
          cases ev
          obtain ⟨t, et⟩ := rvj
          have q1 := e0_run I (A := A.in1) (by rw [show A.in1.units = A.units + 1 from rfl]; omega) (t := t) (he j n y hn ey) ryj
          show SeqAt.EqAt A.in1 s its.toArray[j] its2.toArray[j] (e j)
          rw [List.getElem_toArray, List.getElem_toArray, et]
          exact q1)
      rw [show its.toArray.size = ns.length by rw [List.size_toArray, l1], show its2.toArray.size = ys.length by rw [List.size_toArray, l2]] at rc
      exact .of_refs q rc
  · obtain rfl : u = .none := r
    exact .tuple_none hp (by omega)
  · obtain rfl : u = .bool c := r
    exact .tuple_bool c hp (by omega)
  · obtain ⟨t', rfl⟩ := r
    exact .tuple_int m t' hp (by omega)
  · obtain ⟨t', rfl⟩ := r
    exact .tuple_str z t' hp (by omega)
  · obtain rfl : u = .ref a := r
    obtain ⟨its2, _, hp2, _⟩ := I.list h
    exact .tuple_list hp (plainL_is hp2) (by omega)
  · obtain rfl : u = .ref a := r
    exact .tuple_dictL hp (isD_of I h) (by omega)
/-- a thing in a list of tuples of ints -/
def rInI (K : PySem.W.Frag) (neg : Bool) : R2 := fun x y H Q => ∃ (l : Addr) (ps : List (Addr × List Int)) (bs : List Int → Bool), y = .ref l ∧ SqL K H l (ps.map fun p => V.ref p.1) ∧ (∀ p ∈ ps, SqT K H p.1 (p.2.map V.int) ∧ ETi K H p.2 x (bs p.2)) ∧ Q (.bl (if neg then !(ps.any fun p => bs p.2) else ps.any fun p => bs p.2)) H
theorem any_refs {e : Value → Bool} {f : Addr × List Int → Bool} : ∀ {ps : List (Addr × List Int)} {its : List Value}, Vals (ps.map fun p => V.ref p.1) its → (∀ p ∈ ps, e (.ref p.1) = f p) → its.any e = ps.any f
  | [], _, .nil, _ => rfl
  | p :: ps, _, .cons h t, hf => by
    obtain rfl := (show _ = Value.ref p.1 from h)
    rw [List.any_cons, List.any_cons, hf p (List.mem_cons_self ..), any_refs t fun q hq => hf q (List.mem_cons_of_mem _ hq)]
open Classical in
theorem op_inI (hu : X.A.units + 3 < cLine) : OpR X (compareOp .In) (rInI X.K false) := by
  intro pins s σ H x y v u Q I rx ry h
  obtain ⟨l, ps, bs, rfl, hl, hp, q⟩ := h
  obtain rfl : u = .ref l := ry
  obtain ⟨its, rv, pl, _⟩ := I.list hl
  have key : ∀ p ∈ ps, ∀ p' ∈ ps, p.1 = p'.1 → bs p.2 = bs p'.2 := fun p h1 p' h2 e => by
    have a1 := (hp p h1).1
    have a2 := (hp p' h2).1
    rw [← e] at a2
    have := I.tuple_inj a1 a2
    have e2 : p.2 = p'.2 := by
      have := congrArg (List.map fun v : V => match v with | .int i => i | _ => 0) this
      simpa [List.map_map, Function.comp_def] using this
    rw [e2]
  let ev : Value → Bool := fun z => decide (∃ p ∈ ps, z = .ref p.1 ∧ bs p.2 = true)
  have hev : ∀ p ∈ ps, ev (.ref p.1) = bs p.2 := fun p h1 => by
    by_cases hb : bs p.2 = true
    · rw [hb]; exact decide_eq_true ⟨p, h1, rfl, hb⟩
    · rw [show bs p.2 = false by simpa using hb]
      refine decide_eq_false fun ⟨p', h2, e, hb'⟩ => ?_
      have e' : p.1 = p'.1 := by injection e
      rw [← key p h1 p' h2 e'] at hb'
      exact hb hb'
  refine SeqAt.in_listAt ev (plainL_is pl) (fun z hz => ?_) ?_
  · have hz' : z ∈ its := by simpa using hz
    obtain ⟨j, hj⟩ := List.getElem?_of_mem hz'
    obtain ⟨w, ew, rw_⟩ := pgetR rv hj
    rw [List.getElem?_map] at ew
    cases hn : ps[j]? with
    | none => rw [hn] at ew; cases ew
    | some p =>
      rw [hn] at ew
      cases ew
      obtain rfl := (show z = Value.ref p.1 from rw_)
      have hm := List.mem_of_getElem? hn
      rw [hev p hm]
      exact et_run I (A := X.A.in1) (by rw [show X.A.in1.units = X.A.units + 1 from rfl]; omega) (hp p hm).1 (hp p hm).2 rx
  · rw [show its.toArray.any ev = its.any ev by simp, any_refs rv hev]
    exact ⟨.bl _, H, I, rfl, q⟩
open Classical in
theorem op_notInI (hu : X.A.units + 3 < cLine) : OpR X (compareOp .NotIn) (rInI X.K true) := by
  intro pins s σ H x y v u Q I rx ry h
  obtain ⟨l, ps, bs, rfl, hl, hp, q⟩ := h
  obtain rfl : u = .ref l := ry
  obtain ⟨its, rv, pl, _⟩ := I.list hl
  have key : ∀ p ∈ ps, ∀ p' ∈ ps, p.1 = p'.1 → bs p.2 = bs p'.2 := fun p h1 p' h2 e => by
    have a1 := (hp p h1).1
    have a2 := (hp p' h2).1
    rw [← e] at a2
    have := I.tuple_inj a1 a2
    have e2 : p.2 = p'.2 := by
      have := congrArg (List.map fun v : V => match v with | .int i => i | _ => 0) this
      simpa [List.map_map, Function.comp_def] using this
    rw [e2]
  let ev : Value → Bool := fun z => decide (∃ p ∈ ps, z = .ref p.1 ∧ bs p.2 = true)
  have hev : ∀ p ∈ ps, ev (.ref p.1) = bs p.2 := fun p h1 => by
    by_cases hb : bs p.2 = true
    · rw [hb]; exact decide_eq_true ⟨p, h1, rfl, hb⟩
    · rw [show bs p.2 = false by simpa using hb]
      refine decide_eq_false fun ⟨p', h2, e, hb'⟩ => ?_
      have e' : p.1 = p'.1 := by injection e
      rw [← key p h1 p' h2 e'] at hb'
      exact hb hb'
  refine SeqAt.notIn_listAt ev (plainL_is pl) (fun z hz => ?_) ?_
  · have hz' : z ∈ its := by simpa using hz
    obtain ⟨j, hj⟩ := List.getElem?_of_mem hz'
    obtain ⟨w, ew, rw_⟩ := pgetR rv hj
    rw [List.getElem?_map] at ew
    cases hn : ps[j]? with
    | none => rw [hn] at ew; cases ew
    | some p =>
      rw [hn] at ew
      cases ew
      obtain rfl := (show z = Value.ref p.1 from rw_)
      have hm := List.mem_of_getElem? hn
      rw [hev p hm]
      exact et_run I (A := X.A.in1) (by rw [show X.A.in1.units = X.A.units + 1 from rfl]; omega) (hp p hm).1 (hp p hm).2 rx
  · rw [show its.toArray.any ev = its.any ev by simp, any_refs rv hev]
    exact ⟨.bl _, H, I, rfl, q⟩
end
end L2
namespace LW
open PySem L2 PyProof.Rows
def natsOf : List D → Option (List Int)
  | [] => some []
  | .int i :: r => (natsOf r).map (i :: ·)
  | _ :: _ => none
theorem natsOf_eq : ∀ {xs : List D} {ns : List Int}, natsOf xs = some ns → xs = ns.map D.int
  | [], _, e => by cases e; rfl
  | .int i :: r, _, e => by
    unfold natsOf at e
    cases h : natsOf r with
    | none => rw [h] at e; cases e
    | some ns =>
      rw [h] at e
      cases e
      rw [natsOf_eq h]
      rfl
  | .non :: _, _, e | .bl _ :: _, _, e | .str _ :: _, _, e | .ty _ :: _, _, e | .tup _ :: _, _, e | .lst _ :: _, _, e | .fro _ :: _, _, e | .cell _ :: _, _, e | .obj _ _ _ :: _, _, e | .cls _ :: _, _, e | .dic _ _ :: _, _, e | .dit _ _ :: _, _, e => by cases e
theorem natsOf_map : ∀ ns : List Int, natsOf (ns.map D.int) = some ns
  | [] => rfl
  | n :: r => by
    show (natsOf (r.map D.int)).map (n :: ·) = _
    rw [natsOf_map r]
    rfl
/-- a list of tuples of ints -/
def tupsOf : List D → Option (List (List Int))
  | [] => some []
  | .tup xs :: r => match natsOf xs, tupsOf r with
    | some ns, some l => some (ns :: l)
    | _, _ => none
  | _ :: _ => none
/-- what an int is to a thing -/
def e0D (n : Int) : D → Option Bool
  | .int m => some (n == m)
  | .bl c => some (n == (if c then 1 else 0))
  | .non => some false
  | .str _ => some false
  | .tup _ => some false
  | .lst _ => some false
  | .fro _ => some false
  | .dic _ _ => some false
  | _ => none
/-- what a tuple of ints is to a thing -/
def etD (ns : List Int) : D → Option Bool
  | .tup ys => if ys.all (fun y => (e0D 0 y).isSome) = true then some ((List.range (min ns.length ys.length)).all (fun j => match ns[j]?, ys[j]? with
      | some n, some y => (e0D n y).getD false
      | _, _ => false) && ns.length == ys.length) else none
  | .int _ => some false
  | .bl _ => some false
  | .non => some false
  | .str _ => some false
  | .lst _ => some false
  | .fro _ => some false
  | .dic _ _ => some false
  | _ => none
theorem etD_tup (ns : List Int) (ys : List D) : etD ns (.tup ys) = if ys.all (fun y => (e0D 0 y).isSome) = true then some ((List.range (min ns.length ys.length)).all (fun j => match ns[j]?, ys[j]? with
      | some n, some y => (e0D n y).getD false
      | _, _ => false) && ns.length == ys.length) else none := rfl
section
variable {mg : Glob} {N : Prot} {c : List Addr} {H : Hp} {st : Sto}
theorem rep_seq {v : V} {xs : List D} (h : Rep mg N c H v (.fro xs)) : ∃ a ys, v = .ref a ∧ SqL mg.K H a ys := by
  cases h with
  | fro h _ _ => exact ⟨_, _, rfl, .inl (.inr ⟨_, h⟩)⟩
  | kro h => exact ⟨_, _, rfl, h H⟩
theorem rep_dic {v : V} {ks : List Key} {xs : List D} (h : Rep mg N c H v (.dic ks xs)) : ∃ a kvs, v = .ref a ∧ Rd H a (.dK kvs) := by
  cases h with
  | dic h _ _ _ => exact ⟨_, _, rfl, .inl h⟩
  | dfz h _ _ _ => exact ⟨_, _, rfl, .inr ⟨_, h⟩⟩
theorem e0_rel {v : V} {d : D} {n : Int} {b : Bool} (e : e0D n d = some b) (h : Rep mg N c H v d) : E0i mg.K H n v b := by
  cases d with
  | int m =>
    cases e
    cases h
    exact .inl ⟨m, rfl, rfl⟩
  | bl q =>
    cases e
    cases h
    exact .inr (.inl ⟨q, rfl, rfl⟩)
  | non =>
    cases e
    cases h
    exact .inr (.inr ⟨rfl, .inl rfl⟩)
  | str x =>
    cases e
    cases h
    exact .inr (.inr ⟨rfl, .inr (.inl ⟨x, rfl⟩)⟩)
  | tup xs =>
    cases e
    cases h with
    | tup h _ _ => exact .inr (.inr ⟨rfl, .inr (.inr ⟨_, rfl, .inl ⟨_, SqT.of h⟩⟩)⟩)
  | lst xs =>
    cases e
    cases h with
    | lst h _ _ => exact .inr (.inr ⟨rfl, .inr (.inr ⟨_, rfl, .inr (.inl ⟨_, SqL.of h⟩)⟩)⟩)
  | fro xs =>
    cases e
    obtain ⟨a, ys, rfl, hs⟩ := rep_seq h
    exact .inr (.inr ⟨rfl, .inr (.inr ⟨_, rfl, .inr (.inl ⟨_, hs⟩)⟩)⟩)
  | dic ks xs =>
    cases e
    obtain ⟨a, kvs, rfl, hs⟩ := rep_dic h
    exact .inr (.inr ⟨rfl, .inr (.inr ⟨_, rfl, .inr (.inr ⟨_, hs⟩)⟩)⟩)
  | _ => cases e
theorem e0_some {n m : Int} {d : D} (h : (e0D n d).isSome = true) : (e0D m d).isSome = true := by
  cases d <;> first | rfl | exact h
theorem et_rel {v : V} {d : D} {ns : List Int} {b : Bool} (e : etD ns d = some b) (h : RepT mg N c H v d) : ETi mg.K H ns v b := by
  rcases h with h | ⟨a, vs, xs, rfl, rfl, ha, _, r⟩
  · cases d with
    | int m =>
      cases e
      cases h
      exact .inr ⟨rfl, .inr (.inr (.inl ⟨m, rfl⟩))⟩
    | bl q =>
      cases e
      cases h
      exact .inr ⟨rfl, .inr (.inl ⟨q, rfl⟩)⟩
    | non =>
      cases e
      cases h
      exact .inr ⟨rfl, .inl rfl⟩
    | str x =>
      cases e
      cases h
      exact .inr ⟨rfl, .inr (.inr (.inr (.inl ⟨x, rfl⟩)))⟩
    | tup xs =>
      rw [etD_tup] at e
      split at e
      · rename_i hall
        cases e
        cases h with
        | tup h _ r =>
          refine .inl ⟨_, _, fun j => match ns[j]?, xs[j]? with
            | some n, some y => (e0D n y).getD false
            | _, _ => false, rfl, SqT.of h, fun j n y hn hy => ?_, by rw [r.length]⟩
          obtain ⟨d, hd, rd⟩ := r.getV hy
          have q1 : (e0D 0 d).isSome = true := List.all_eq_true.mp hall d (List.mem_of_getElem? hd)
          have q2 := e0_some (m := n) q1
          cases hv : e0D n d with
          | none => rw [hv] at q2; cases q2
          | some b =>
            have : (match ns[j]?, xs[j]? with
              | some n, some y => (e0D n y).getD false
              | _, _ => false) = b := by rw [hn, hd]; simp only [hv]; rfl
            show E0i mg.K H n y (match ns[j]?, xs[j]? with
              | some n, some y => (e0D n y).getD false
              | _, _ => false)
            rw [this]
            exact e0_rel hv rd
      · cases e
    | lst xs =>
      cases e
      cases h with
      | lst h _ _ => exact .inr ⟨rfl, .inr (.inr (.inr (.inr ⟨_, rfl, .inl ⟨_, SqL.of h⟩⟩)))⟩
    | fro xs =>
      cases e
      obtain ⟨a, ys, rfl, hs⟩ := rep_seq h
      exact .inr ⟨rfl, .inr (.inr (.inr (.inr ⟨_, rfl, .inl ⟨_, hs⟩⟩)))⟩
    | dic ks xs =>
      cases e
      obtain ⟨a, kvs, rfl, hs⟩ := rep_dic h
      exact .inr ⟨rfl, .inr (.inr (.inr (.inr ⟨_, rfl, .inr ⟨_, hs⟩⟩)))⟩
    | _ => cases e
  · cases e
    exact .inr ⟨rfl, .inr (.inr (.inr (.inr ⟨_, rfl, .inl ⟨_, SqL.of ha⟩⟩)))⟩
end
end LW
namespace L2
open PySem PySem.Spec PyProof.Rows
def dedupL {α : Type} [DecidableEq α] : List α → List α
  | [] => []
  | x :: r => if x ∈ r then dedupL r else x :: dedupL r
theorem mem_dedupL {α : Type} [DecidableEq α] {y : α} : ∀ {l : List α}, y ∈ dedupL l ↔ y ∈ l
  | [] => Iff.rfl
  | x :: r => by
    unfold dedupL
    split
    · rename_i h
      rw [mem_dedupL (l := r), List.mem_cons]
      exact ⟨.inr, fun z => z.elim (fun e => e ▸ h) id⟩
    · rw [List.mem_cons, List.mem_cons, mem_dedupL (l := r)]
theorem nodup_dedupL {α : Type} [DecidableEq α] : ∀ l : List α, (dedupL l).Nodup
  | [] => List.nodup_nil
  | x :: r => by
    unfold dedupL
    split
    · exact nodup_dedupL r
    · rename_i h
      exact List.nodup_cons.mpr ⟨fun z => h (mem_dedupL.mp z), nodup_dedupL r⟩
theorem dedupL_len {α : Type} [DecidableEq α] {l m : List α} (h : m.Nodup) (e : ∀ x, x ∈ m ↔ x ∈ l) : m.length = (dedupL l).length :=
  ((List.perm_ext_iff_of_nodup h (nodup_dedupL l)).mpr fun x => (e x).trans mem_dedupL.symm).length_eq
def tLenSetT (K : PySem.W.Frag) (ta : TE) : TE := fun σ H Q => ta σ H fun x H1 => ∃ (l : Addr) (ks : List (Addr × List Int)), x = .ref l ∧ SqL K H1 l (ks.map fun p => V.ref p.1) ∧ (∀ p ∈ ks, SqT K H1 p.1 (p.2.map V.int)) ∧ ks.length < 64 ∧ Q (.int ((dedupL (ks.map (·.2))).length : Nat)) H1
theorem pe_lenSetT {X : Cx} {a : Expr} {ta : TE} {p p2 q pos : Pos} (hu : X.A.units + 64 < cLine) (hg : Gl X "len") (hm : X.mg "len" = none) (hg2 : Gl X "set") (hm2 : X.mg "set" = none) (ha : PE X a ta) (hc : X.calm = true := by rfl)
    (na : starEach [a] X.env = (false, eval a X.env) :: starEach [] X.env := by rfl) : PE X (.Call (.Name "len" p) [.Call (.Name "set" p2) [a] [] q] [] pos) (tLenSetT X.K ta) := by
  refine ⟨fun pins s σ H Q I h => ?_⟩
  refine Call_ (ld_blt I hg hm boot_len ?_)
  refine PyProof.Rows.callWith_builtin1 (PyProof.Rows.args_cons ?_ rfl) rfl rfl
  refine Call_ (ld_blt I hg2 hm2 boot_set ?_)
  refine PyProof.Rows.callWith_type1 (PyProof.Rows.args_cons (thn (ha.run pins s σ H _ I h) fun v s1 ⟨x, H1, I1, r1, q1⟩ => PyProof.Rows.args_nil ?_) na) na rfl
  obtain ⟨l, ks, rfl, hl, hk, hf, q1⟩ := q1
  cases r1
  obtain ⟨its, rv, pl, hz⟩ := I1.list hl
  refine call_set_tups (P := X.prog) (w := X.w) ks (I1.ok.hd hc) pl.isList (by simpa using refs_of_vals rv) (fun p hp => I1.isT (hk p hp)) hf (by omega) fun h' tk L es ep t R g k => ?_
  refine PyProof.Rows.args_nil ?_
  obtain ⟨o, ho, hex, hd⟩ := R.ob
  have hsz : es.size = L.length := R.size (s := { s1 with heap := h', toks := tk })
  have hlen : L.length = (dedupL (ks.map (·.2))).length := by
    have e : ∀ x, x ∈ L.map (·.2) ↔ x ∈ ks.map (·.2) := fun x => ⟨fun hx => by
      obtain ⟨p, hp, rfl⟩ := List.mem_map.mp hx
      exact List.mem_map_of_mem (List.mem_of_mem_take (g.sub p hp)), fun hx => by
      obtain ⟨p, hp, rfl⟩ := List.mem_map.mp hx
      exact g.all p (by rw [List.take_length]; exact hp)⟩
    rw [← dedupL_len R.nd e, List.length_map]
  have hfit : t.fits es.size = true := R.fits (s := { s1 with heap := h', toks := tk })
  have I2 : Inv X pins σ H1 { s1 with heap := h', toks := tk } := I1.kept k
  exact call_len_set ho hex hd hfit (by rw [hsz]; have := R.few; omega) ⟨.int ((dedupL (ks.map (·.2))).length : Nat), H1, I2.tok _, ⟨_, by rw [hsz, hlen]⟩, q1⟩
end L2
namespace LW
open PySem L2 PyProof.Rows
section
variable {mg : Glob} {N : Prot} {c : List Addr} {H : Hp} {st : Sto}
theorem tups_rel : ∀ {xs : List D} {vs : List V} {l : List (List Int)}, RepL mg N c H vs xs → tupsOf xs = some l → ∃ ps : List (Addr × List Int), vs = ps.map (fun p => V.ref p.1) ∧ ps.map (·.2) = l ∧ ∀ p ∈ ps, SqT mg.K H p.1 (p.2.map V.int)
  | [], _, _, .nil, e => by
    cases e
    exact ⟨[], rfl, rfl, fun p h => by cases h⟩
  | x :: xs, _, _, .cons h r, e => by
    unfold tupsOf at e
    split at e
    · rename_i hx
      cases hx
    · rename_i zs r' hx
      cases hx
      split at e
      · rename_i ns l' h1 h2
        cases e
        obtain ⟨ps, rfl, hm, hp⟩ := tups_rel r h2
        cases h with
        | @tup a ws _ ha _ ra =>
          have e1 := natsOf_eq h1
          subst e1
          have e2 := ra.of_ints
          subst e2
          refine ⟨(a, ns) :: ps, rfl, by rw [List.map_cons, hm], fun p hq => ?_⟩
          rcases List.mem_cons.mp hq with rfl | hq
          · exact SqT.of ha
          · exact hp p hq
      · cases e
    · cases e
/-- x in xs, xs a list of tuples of ints -/
def oInP (neg : Bool) : D → D → Sto → Option D := fun x y st => match lstR st y with
  | some ys => (match tupsOf ys with
    | some l => if l.all (fun ns => (etD ns x).isSome) = true then some (.bl (if neg then !(l.any fun ns => (etD ns x).getD false) else l.any fun ns => (etD ns x).getD false)) else none
    | none => none)
  | none => none
theorem ok_inP {neg : Bool} : OpOk mg (RE mg) (rInI mg.K neg) (oInP neg) := by
  intro N c H st u v x y d Q W p1 p2 e k
  unfold oInP at e
  split at e
  · rename_i ys hy
    split at e
    · rename_i l hl
      split at e
      · rename_i hall
        cases e
        obtain ⟨a, vs, rfl, ha, r⟩ := RepT.read W p2 hy
        obtain ⟨ps, rfl, rfl, hp⟩ := tups_rel r hl
        refine ⟨a, ps, fun ns => (etD ns x).getD false, rfl, ha, fun p hq => ⟨hp p hq, ?_⟩, ?_⟩
        · have h1 : (etD p.2 x).isSome = true := List.all_eq_true.mp hall p.2 (List.mem_map_of_mem hq)
          cases hv : etD p.2 x with
          | none => rw [hv] at h1; cases h1
          | some b =>
            have e1 : (etD p.2 x).getD false = b := by rw [hv]; rfl
            show ETi mg.K H p.2 u ((etD p.2 x).getD false)
            rw [e1]
            exact et_rel hv p1
        · have : (ps.map (·.2)).any (fun ns => (etD ns x).getD false) = ps.any fun p => (etD p.2 x).getD false := by rw [List.any_map]; rfl
          rw [← this]
          exact k _ N c H Ex.refl W (.bl _)
      · cases e
    · cases e
  · cases e
/-- len(set(xs)), xs a list of tuples of ints -/
def eLenST (f : SE) : SE := fun env st => match f env st with
  | some (x, s1) => (match lstR s1 x with
    | some xs => (match tupsOf xs with
      | some l => if l.length < 64 then some (.int ((dedupL l).length : Nat), s1) else none
      | none => none)
    | none => none)
  | none => none
end
section
variable {mg : Glob} {X : Cx} {a b : Expr} {pos p1 p2 p3 : Pos} {fa fb : SE}
theorem d_inP (hu : X.A.units + 65 < cLine) (ha : PE X a (tP mg fa)) (hb : PE X b (tP mg fb)) (hK : X.K = mg.K := by rfl) (hn : lastMarks [.In] [b] = false := by rfl) : PE X (.Compare a [.In] [b] pos) (tE mg (eOp (oInP false) fa fb)) := d_cmp (hK ▸ op_inI (by omega)) ok_inP back_E ha hb hn
theorem d_ninP (hu : X.A.units + 65 < cLine) (ha : PE X a (tP mg fa)) (hb : PE X b (tP mg fb)) (hK : X.K = mg.K := by rfl) (hn : lastMarks [.NotIn] [b] = false := by rfl) : PE X (.Compare a [.NotIn] [b] pos) (tE mg (eOp (oInP true) fa fb)) := d_cmp (hK ▸ op_notInI (by omega)) ok_inP back_E ha hb hn
theorem d_lenST (hu : X.A.units + 65 < cLine) (hm : X.mg "len" = none) (hm2 : X.mg "set" = none) (ha : PE X a (tP mg fa)) (hg : Gl X "len" := by rfl) (hg2 : Gl X "set" := by rfl) (hc : X.calm = true := by rfl) (na : starEach [a] X.env = (false, eval a X.env) :: starEach [] X.env := by rfl) (hK : X.K = mg.K := by rfl) :
    PE X (.Call (.Name "len" p1) [.Call (.Name "set" p2) [a] [] p3] [] pos) (tE mg (eLenST fa)) :=
  pe_weak (pe_lenSetT (by omega) hg hm hg2 hm2 ha hc na) fun σ H Q ⟨E, N, c, env, st, d, st', R, q, k⟩ => by
    unfold eLenST at q
    split at q
    · rename_i x s1 q1
      split at q
      · rename_i xs hx
        split at q
        · rename_i l hl
          split at q
          · rename_i h64
            cases q
            refine ⟨E, N, c, env, st, x, _, R, q1, fun v N2 c2 H2 x2 W2 r2 => ?_⟩
            obtain ⟨b, vs, rfl, hb, r⟩ := RepT.read W2 r2 hx
            obtain ⟨ps, rfl, rfl, hp⟩ := tups_rel r hl
            refine ⟨b, ps, rfl, by rw [hK]; exact hb, fun p hq => by rw [hK]; exact hp p hq, by simpa using h64, k _ N2 c2 H2 x2 W2 (.int _)⟩
          · cases q
        · cases q
      · cases q
    · cases q
end
end LW

/-! LwEh: != of lists of equal things, tuples and dicts among them (turned from LwYd and from the rule for tuples). -/
namespace PySem.SeqAt
open PySem
open MeetsSeq MeetsSeq2 MeetsSeq3 SeqRoads2
section
variable {prog : Program} {w : World}
theorem tuple_eqInY (l b : Addr) (items items2 : Array Value) (n n2 : Nat) (dd dd2 : Option Addr) (sl sl2 : Array (Option Value)) (e : Nat → Bool) :
    MeetsIn prog w (Builtin.«tuple.__eq__» ⟨[.ref l, .ref b], []⟩)
      (fun A R s => s.heap.get? l = some { cls := .type "tuple", dict := dd, data := .seq items n, slots := sl } ∧ s.heap.get? b = some { cls := .type "tuple", dict := dd2, data := .seq items2 n2, slots := sl2 } ∧
        (∀ j (h1 : j < items.size) (h2 : j < items2.size), EqP prog w A.in1 s items[j] items2[j] (e j)) ∧
        R (.ok (.ret (.bool ((List.range (min items.size items2.size)).all e && items.size == items2.size)))) s) :=
  by
    intro A R s h
    obtain ⟨hp, g, d, tk, os⟩ := s; obtain ⟨hl, hb, he, h⟩ := h
    have f2 := AutoSeq1.sub_tuple_tuple
    have hZ : (items.toList.zip items2.toList).length = min items.size items2.size := by simp
    wp_walk using wpAny_loadPart' hl, wpAny_loadPart' hb, wpAny_forIn_list _ (fun rest b s' => b.1 = none ∧ s' = ⟨hp, g, d, tk, os⟩ ∧ ∃ i, rest = (items.toList.zip items2.toList).drop i ∧
      R (.ok (.ret (.bool (((List.range (min items.size items2.size)).drop i).all e && items.size == items2.size)))) ⟨hp, g, d, tk, os⟩) _
    case turn =>
      rintro ⟨y, x⟩ rest b s' ⟨hb', rfl, i, hz, hR⟩
      have hlt : i < (items.toList.zip items2.toList).length := by
        rcases Nat.lt_or_ge i (items.toList.zip items2.toList).length with h' | h'
        · exact h'
        · rw [List.drop_of_length_le h'] at hz; cases hz
      have hm : i < min items.size items2.size := hZ ▸ hlt
      have h1 : i < items.size := Nat.lt_of_lt_of_le hm (Nat.min_le_left _ _)
      have h2 : i < items2.size := Nat.lt_of_lt_of_le hm (Nat.min_le_right _ _)
      rw [List.drop_eq_getElem_cons hlt] at hz
      injection hz with hyx hrest
      have hy : y = items[i] := by have := congrArg Prod.fst hyx; simpa using this
      have hx : x = items2[i] := by have := congrArg Prod.snd hyx; simpa using this
      subst hy hx
      have hd : (List.range (min items.size items2.size)).drop i = i :: (List.range (min items.size items2.size)).drop (i + 1) := by simp [List.drop_eq_getElem_cons, hm]
      rw [hd, List.all_cons] at hR
      refine wpAny_bind (he i h1 h2 _ _ ?_)
      cases hy : e i with
      | true =>
        rw [hy] at hR
        wp_walk
        exact ⟨rfl, rfl, i + 1, hrest, by simpa using hR⟩
      | false =>
        rw [hy] at hR
        wp_walk
        first | exact ⟨_, rfl, by simpa using hR⟩ | (simpa using hR)
    case fin =>
      rintro ⟨b1, b2⟩ s' ⟨hb', rfl, i, hz, hR⟩
      simp only at hb'
      subst hb'
      have hge : min items.size items2.size ≤ i := by
        rcases Nat.lt_or_ge i (items.toList.zip items2.toList).length with h' | h'
        · rw [List.drop_eq_getElem_cons h'] at hz; cases hz
        · exact hZ ▸ h'
      rw [List.drop_of_length_le (by simpa using hge)] at hR
      wp_walk
      first | exact ⟨_, rfl, by simpa [Builtin.Tuple.tupleCompareSizes] using hR⟩ | (simpa [Builtin.Tuple.tupleCompareSizes] using hR)
    case h =>
      exact ⟨rfl, rfl, 0, rfl, by simpa using h⟩


theorem rcP_tuplesY {A : Around} {s : Shared} {l b : Addr} {items items2 : Array Value} {e : Nat → Bool} (hl : s.heap.IsTuple l items) (hb : s.heap.IsTuple b items2) (hu : A.units < cLine)
    (he : ∀ j (h1 : j < items.size) (h2 : j < items2.size), EqP prog w A.in1 s items[j] items2[j] (e j)) (E Q : Value → Shared → Prop) (h : Q (.bool ((List.range (min items.size items2.size)).all e && items.size == items2.size)) s) : wpAny (model prog w) A (richCompare .Eq (.ref l) (.ref b)) Q E s := by
  obtain ⟨⟨cls, dd, data, sl⟩, ho, hc, n, hd⟩ := id hl
  obtain ⟨⟨cls2, dd2, data2, sl2⟩, ho2, hc2, n2, hd2⟩ := id hb
  simp only at hc hd hc2 hd2
  subst hc hd hc2 hd2
  have ta : s.TypeIs (.ref l) "tuple" := ⟨_, ho, rfl⟩
  have tb : s.TypeIs (.ref b) "tuple" := ⟨_, ho2, rfl⟩
  exact wpAny_richCompare_same_room (op := .Eq) ta tb F.slot_tuple_eq (call_meetsIn F.slot_tuple_eq ta F.entry_tuple_eq (F.args_tuple_eq_2 _ _) (tuple_eqInY l b items items2 n n2 dd dd2 sl sl2 e)
    ⟨ho, ho2, he, show Value.bool ((List.range (min items.size items2.size)).all e && items.size == items2.size) ≠ Value.notImplemented ∧ Q (.bool ((List.range (min items.size items2.size)).all e && items.size == items2.size)) s from ⟨(fun x => nomatch x), h⟩⟩) hu
end
end PySem.SeqAt
namespace LW
open PySem L2 PyProof.Rows
/-- two things that are equal, of nesting below n: flat ones, lists, dicts (locked ones too) -/
def EqY (K : PySem.W.Frag) (H : Hp) : Nat → V → V → Prop
  | 0 => fun _ _ => False
  | n + 1 => fun x y => (x = y ∧ flatB x = true) ∨ (∃ a b xs ys, x = .ref a ∧ y = .ref b ∧ SqL K H a xs ∧ SqL K H b ys ∧ Paired (EqY K H n) xs ys) ∨
    (∃ a b xs ys, x = .ref a ∧ y = .ref b ∧ SqT K H a xs ∧ SqT K H b ys ∧ Paired (EqY K H n) xs ys) ∨
    ∃ a b ks ls, x = .ref a ∧ y = .ref b ∧ Rd H a (.dK ks) ∧ Rd H b (.dK ls) ∧ ks.length = ls.length ∧ ∀ p ∈ ks, ∃ u, valV ls p.1 = some u ∧ EqY K H n p.2 u
section
variable {X : Cx} {pins : List (Addr × Obj)} {σ : L2.St} {H : Hp} {s : Shared}
theorem eqY_run (I : Inv X pins σ H s) : ∀ (n : Nat) (A : Around), A.units + n < cLine → ∀ (x y : V) (v u : Value), EqY X.K H n x y → RelV x v → RelV y u → SeqAt.EqP X.prog X.w A s v u true
  | 0, _, _, _, _, _, _, h, _, _ => (show False from h).elim
  | n + 1, A, hu, x, y, v, u, h, rx, ry => by
    have ih := eqY_run I n A.in1 (by show A.units + 1 + n < cLine; omega)
    rcases h with ⟨rfl, f⟩ | ⟨a, b, xs, ys, rfl, rfl, ha, hb, hp⟩ | ⟨a, b, xs, ys, rfl, rfl, ha, hb, hp⟩ | ⟨a, b, ks, ls, rfl, rfl, ha, hb, hl, hp⟩
    · exact (eqAt_same rx ry f).eqP
    · cases (show v = Value.ref a from rx)
      cases (show u = Value.ref b from ry)
      by_cases e : a = b
      · subst e
        exact (SeqAt.EqAt.same _).eqP
      · refine SeqAt.eqP_refs e fun E Q q => ?_
        obtain ⟨us, r1, p1, _⟩ := I.list ha
        obtain ⟨ws, r2, p2, _⟩ := I.list hb
        refine SeqAt.rcP_lists (e := fun _ => true) p1.isList p2.isList (by rw [List.size_toArray, List.size_toArray, ← r1.length, ← r2.length]; exact Paired.length hp) (by omega) (fun j h1 h2 => ?_) E Q ?_
        · have k := items_run ih hp r1 r2 j (by simpa using h1) (by simpa using h2)
          simpa using k
        · rw [show ((List.range us.toArray.size).all fun _ => true) = true from List.all_eq_true.mpr fun _ _ => rfl]
          exact q
    · cases (show v = Value.ref a from rx)
      cases (show u = Value.ref b from ry)
      by_cases e : a = b
      · subst e
        exact (SeqAt.EqAt.same _).eqP
      · refine SeqAt.eqP_refs e fun E Q q => ?_
        obtain ⟨us, r1, p1, _⟩ := I.tuple ha
        obtain ⟨ws, r2, p2, _⟩ := I.tuple hb
        have hz : us.toArray.size = ws.toArray.size := by rw [List.size_toArray, List.size_toArray, ← r1.length, ← r2.length]; exact Paired.length hp
        refine SeqAt.rcP_tuplesY (e := fun _ => true) p1 p2 (by omega) (fun j h1 h2 => ?_) E Q ?_
        · have k := items_run ih hp r1 r2 j (by simpa using h1) (by simpa using h2)
          simpa using k
        · rw [show ((List.range (min us.toArray.size ws.toArray.size)).all (fun _ => true) && us.toArray.size == ws.toArray.size) = true by rw [hz]; simp]
          exact q
    · cases (show v = Value.ref a from rx)
      cases (show u = Value.ref b from ry)
      by_cases e : a = b
      · subst e
        exact (SeqAt.EqAt.same _).eqP
      · refine SeqAt.eqP_refs e fun E Q q => ?_
        obtain ⟨_, ya, va, ra, da⟩ := (show ObjOk X.prog X.w H s.heap a (.dK ks) from ha.ok I.hok)
        obtain ⟨_, yb, vb, rb, db⟩ := (show ObjOk X.prog X.w H s.heap b (.dK ls) from hb.ok I.hok)
        refine PySem.W.rcP_dicts (knd := mixKind X.prog X.w) (r := true) ya yb da db (by omega) (fun _ => hits_run ih rb ra hp) E Q ?_
        rw [show (va.length == vb.length && true) = true from by rw [show va.length = vb.length by rw [← ra.length, ← rb.length]; exact hl]; simp]
        exact q
end
def rNeW (K : PySem.W.Frag) : R2 := fun x y H Q => ∃ n a b xs ys, n ≤ 60 ∧ x = .ref a ∧ y = .ref b ∧ SqL K H a xs ∧ SqL K H b ys ∧ Paired (EqY K H n) xs ys ∧ Q (.bl false) H
theorem op_neW {X : Cx} (hu : X.A.units + 64 < cLine) : OpR X (compareOp .NotEq) (rNeW X.K) := by
  intro pins s σ H x y v u Q I rx ry h
  obtain ⟨n, a, b, xs, ys, hn, rfl, rfl, ha, hb, hp, q⟩ := h
  cases (show v = Value.ref a from rx)
  cases (show u = Value.ref b from ry)
  obtain ⟨us, r1, p1, _⟩ := I.list ha
  obtain ⟨ws, r2, p2, _⟩ := I.list hb
  have hz : us.toArray.size = ws.toArray.size := by
    rw [List.size_toArray, List.size_toArray, ← r1.length, ← r2.length]
    exact Paired.length hp
  refine SeqAt.lw_ne p1.isList p2.isList hz (by omega) (fun j h1 h2 => ?_) _ _ ⟨.bl false, H, I, rfl, q⟩
  have k := items_run (eqY_run I n X.A.in1 (by show X.A.units + 1 + n < cLine; omega)) hp r1 r2 j (by simpa using h1) (by simpa using h2)
  simpa using k
/-! ### equal data -/
def eqY : Nat → D → D → Bool
  | 0 => fun _ _ => false
  | n + 1 => fun x y => match x, y with
    | .int a, .int b => decide (a = b)
    | .str a, .str b => decide (a = b)
    | .bl a, .bl b => decide (a = b)
    | .non, .non => true
    | .lst xs, .lst ys => all2 (eqY n) xs ys
    | .tup xs, .tup ys => all2 (eqY n) xs ys
    | .fro xs, .fro ys => all2 (eqY n) xs ys
    | .dic ks vs, .dic ls us => decide (ks = ls) && decide (ks.Pairwise (· ≠ ·)) && all2 (eqY n) vs us
    | _, _ => false
section
variable {mg : Glob} {N : Prot} {c : List Addr} {H : Hp} {st : Sto}
theorem all2_relY {n : Nat} (ih : ∀ (x y : D) (u v : V), eqY n x y = true → Rep mg N c H u x → Rep mg N c H v y → EqY mg.K H n u v) : ∀ {xs ys : List D} {us vs : List V}, all2 (eqY n) xs ys = true → RepL mg N c H us xs → RepL mg N c H vs ys → Paired (EqY mg.K H n) us vs
  | [], [], _, _, _, .nil, .nil => .nil
  | x :: xs, y :: ys, _, _, e, .cons h t, .cons h' t' => by
    unfold all2 at e
    rw [Bool.and_eq_true] at e
    exact .cons (ih _ _ _ _ e.1 h h') (all2_relY ih e.2 t t')
  | [], _ :: _, _, _, e, _, _ => by cases e
  | _ :: _, [], _, _, e, _, _ => by cases e
theorem eqY_rel (W : Wd mg N c H st) : ∀ (n : Nat) (x y : D) (u v : V), eqY n x y = true → Rep mg N c H u x → Rep mg N c H v y → EqY mg.K H n u v
  | 0, _, _, _, _, e, _, _ => by cases e
  | n + 1, x, y, u, v, e, hx, hy => by
    unfold eqY at e
    split at e
    · cases hx; cases hy; exact .inl ⟨by rw [of_decide_eq_true e], rfl⟩
    · cases hx; cases hy; exact .inl ⟨by rw [of_decide_eq_true e], rfl⟩
    · cases hx; cases hy; exact .inl ⟨by rw [of_decide_eq_true e], rfl⟩
    · cases hx; cases hy; exact .inl ⟨rfl, rfl⟩
    · cases hx with
      | lst ha _ r => cases hy with
        | lst hb _ r' => exact .inr (.inl ⟨_, _, _, _, rfl, rfl, SqL.of ha, SqL.of hb, all2_relY (eqY_rel W n) e r r'⟩)
    · cases hx with
      | tup ha _ r => cases hy with
        | tup hb _ r' => exact .inr (.inr (.inl ⟨_, _, _, _, rfl, rfl, SqT.of ha, SqT.of hb, all2_relY (eqY_rel W n) e r r'⟩))
    · obtain ⟨a, us, rfl, ha, r⟩ := RepT.read W (.inl hx) (st := st) rfl
      obtain ⟨b, vs, rfl, hb, r'⟩ := RepT.read W (.inl hy) (st := st) rfl
      exact .inr (.inl ⟨_, _, _, _, rfl, rfl, ha, hb, all2_relY (eqY_rel W n) e r r'⟩)
    · rw [Bool.and_eq_true, Bool.and_eq_true] at e
      obtain ⟨⟨e1, e2⟩, e3⟩ := e
      have e1 := of_decide_eq_true e1
      have e2 := of_decide_eq_true e2
      obtain ⟨a, kvs, rfl, ha, rfl, r⟩ := RepT.dic (.inl hx)
      obtain ⟨b, lvs, rfl, hb, rfl, r'⟩ := RepT.dic (.inl hy)
      have pr := all2_relY (eqY_rel W n) e3 r r'
      refine .inr (.inr (.inr ⟨a, b, kvs, lvs, rfl, rfl, ha, hb, ?_, pair_get e1 e2 pr⟩))
      have := congrArg List.length e1
      rwa [List.length_map, List.length_map] at this
    · cases e
end
def oNeY : D → D → Sto → Option D := fun x y st => match lstR st x, lstR st y with
  | some xs, some ys => if all2 (eqY 40) xs ys = true then some (.bl false) else none
  | _, _ => none
theorem ok_neY {mg : Glob} : OpOk mg (RE mg) (rNeW mg.K) oNeY := by
  intro N c H st u v x y d Q W p1 p2 e k
  unfold oNeY at e
  split at e
  · rename_i xs ys hx hy
    split at e
    · rename_i h
      cases e
      obtain ⟨a, us, rfl, ha, r⟩ := RepT.read W p1 hx
      obtain ⟨b, vs, rfl, hb, r'⟩ := RepT.read W p2 hy
      exact ⟨40, a, b, us, vs, by decide, rfl, rfl, ha, hb, all2_relY (eqY_rel W 40) h r r', k _ N c H Ex.refl W (.bl _)⟩
    · cases e
  · cases e
section
variable {mg : Glob} {X : Cx} {a b : Expr} {pos : Pos} {fa fb : SE}
theorem d_neY (hu : X.A.units + 64 < cLine) (ha : PE X a (tP mg fa)) (hb : PE X b (tP mg fb)) (hK : X.K = mg.K := by rfl) : PE X (.Compare a [.NotEq] [b] pos) (tE mg (eOp oNeY fa fb)) := d_cmp (hK ▸ op_neW hu) ok_neY back_E ha hb (nomark _)
end
end LW

/-! LwEi: xs != [] , the things in xs of any kind. -/
namespace L2
open PySem PySem.Spec PyProof.Rows
def rNeN (K : PySem.W.Frag) : R2 := fun x y H Q => ∃ (a b : Addr) (xs : List V), x = .ref a ∧ y = .ref b ∧ SqL K H a xs ∧ SqL K H b [] ∧ Q (.bl (!xs.isEmpty)) H
theorem op_neN {X : Cx} (hu : X.A.units < cLine) : OpR X (compareOp .NotEq) (rNeN X.K) := by
  intro pins s σ H x y v u Q I rx ry h
  obtain ⟨a, b, xs, rfl, rfl, ha, hb, q⟩ := h
  obtain rfl : v = Value.ref a := rx
  obtain rfl : u = Value.ref b := ry
  obtain ⟨us, r1, p1, _⟩ := I.list ha
  obtain ⟨ws, r2, p2, _⟩ := I.list hb
  cases r2
  cases xs with
  | nil =>
    cases r1
    have rc := SeqAt.RcNeAt.lists (A := X.A) (e := fun _ => true) (plainL_is p1) (plainL_is p2) rfl hu (fun j h1 h2 => absurd h1 (by simp))
    exact rc X.prog X.w X.xe _ ⟨.bl false, H, I, rfl, q⟩
  | cons y ys =>
    have hz : (us.toArray.size != ([] : List Value).toArray.size) = true := by
      have l := r1.length
      rw [List.size_toArray, ← l]
      simp
    have rc := SeqAt.RcNeAt.lists_lengths (A := X.A) (plainL_is p1) (plainL_is p2) hz hu
    exact rc X.prog X.w X.xe _ ⟨.bl true, H, I, rfl, q⟩
end L2
namespace LW
open PySem L2 PyProof.Rows
/-- xs != [] -/
def oNeN : D → D → Sto → Option D := fun x y st => match lstR st x, y with
  | some xs, .lst [] => some (.bl (!xs.isEmpty))
  | _, _ => none
theorem ok_neN {mg : Glob} : OpOk mg (RE mg) (rNeN mg.K) oNeN := by
  intro N c H st u v x y d Q W p1 p2 e k
  unfold oNeN at e
  split at e
  · rename_i xs hx
    cases e
    obtain ⟨a, us, rfl, ha, r⟩ := RepT.read W p1 hx
    obtain ⟨b, vs, rfl, hb, r'⟩ := RepT.read W p2 (xs := []) rfl
    cases r'
    refine ⟨a, b, us, rfl, rfl, ha, hb, ?_⟩
    have : us.isEmpty = xs.isEmpty := by cases r <;> rfl
    rw [this]
    exact k _ N c H Ex.refl W (.bl _)
  · cases e
section
variable {mg : Glob} {X : Cx} {a b : Expr} {pos : Pos} {fa fb : SE}
theorem d_neN (hu : X.A.units < cLine) (ha : PE X a (tP mg fa)) (hb : PE X b (tP mg fb)) (hK : X.K = mg.K := by rfl) : PE X (.Compare a [.NotEq] [b] pos) (tE mg (eOp oNeN fa fb)) := d_cmp (hK ▸ op_neN hu) ok_neN back_E ha hb (nomark _)
end
end LW
namespace L2
open PySem PySem.Spec PyProof.Rows
def rInTD (K : PySem.W.Frag) : R2 := fun x y H Q => ∃ d ds, Dp K H x d ∧ Dp K H y (.tuple ds) ∧ SeqAt.shaped d = true ∧ SeqAt.shaped (.tuple ds) = true ∧ Q (.bl (ds.any fun z => PyData.eqv z d)) H
theorem op_inTD {X : Cx} (hu : X.A.units + 65 < cLine) : OpR X (compareOp .In) (rInTD X.K) := by
  intro pins s σ H x y v u Q I rx ry h
  obtain ⟨d, ds, hd, he, sd, se, q⟩ := h
  obtain ⟨as, r1⟩ := Dp.reads I d x v hd rx
  obtain ⟨bs, r2⟩ := Dp.reads I (.tuple ds) y u he ry
  exact SeqAt.in_tuple_reads r2 r1 (SeqAt.canLay_of_shaped se) (SeqAt.canLay_of_shaped sd) (room_in_shaped sd hu) ⟨.bl _, H, I, rfl, q⟩
end L2
namespace LW
open PySem L2 PyProof.Rows
/-- x in (t, ..), data -/
def oInTD : D → D → Sto → Option D := fun x y st => match toPy 60 st x, toPy 60 st y with
  | some p, some (.tuple ds) => some (.bl (ds.any fun z => PyData.eqv z p))
  | _, _ => none
theorem ok_inTD {mg : Glob} : OpOk mg (RE mg) (rInTD mg.K) oInTD := by
  intro N c H st u v x y d Q W p1 p2 e k
  unfold oInTD at e
  split at e
  · rename_i p ds hp hd
    cases e
    exact ⟨p, ds, dp_T W p1 hp, dp_T W p2 hd, toPy_shaped hp, toPy_shaped hd, k _ N c H Ex.refl W (.bl _)⟩
  · cases e
section
variable {mg : Glob} {X : Cx} {a b : Expr} {pos : Pos} {fa fb : SE}
theorem d_inTD (hu : X.A.units + 65 < cLine) (ha : PE X a (tP mg fa)) (hb : PE X b (tP mg fb)) (hK : X.K = mg.K := by rfl) (hn : lastMarks [.In] [b] = false := by rfl) : PE X (.Compare a [.In] [b] pos) (tE mg (eOp oInTD fa fb)) := d_cmp (hK ▸ op_inTD hu) ok_inTD back_E ha hb hn
end
end LW

/-! LwEj: how mirrors that may raise run, told backwards. -/
namespace LW
open PySem L2
section
variable {env : Env} {st : Sto} {f g : SX} {fs : SS} {fe : EX} {fv : SE} {t : SB} {Q : OutX → Sto → Prop} {QE : RX → Sto → Prop} {QS : Out → Sto → Prop} {cn : Str} {i : Nat}
theorem z_fnX {n m : Nat} {body : SX} {ds : List D} (hl : ds.length = n) (h : Ok (body (env0 m ds) st) fun o s => match o with
    | .o (.rt d) => QE (.ok d) s
    | .o (.nx _) => QE (.ok .non) s
    | .ex cn d _ => QE (.ex cn d) s
    | _ => False) : Ok (fnX n m body ds st) QE := by
  obtain ⟨o, s, e, q⟩ := h
  unfold fnX
  rw [if_pos hl, e]
  cases o with
  | o o => cases o with
    | rt d => exact ⟨_, s, rfl, q⟩
    | nx e1 => exact ⟨_, s, rfl, q⟩
    | bk e1 => exact q.elim
    | ct e1 => exact q.elim
  | ex cn d e1 => exact ⟨_, s, rfl, q⟩
theorem z_xSeq (h : Ok (f env st) fun o s => match o with
    | .o (.nx e) => Ok (g e s) Q
    | o => Q o s) : Ok (xSeq f g env st) Q := by
  obtain ⟨o, s, e, q⟩ := h
  unfold xSeq
  rw [e]
  cases o with
  | o o => cases o with
    | nx e1 => exact q
    | rt d => exact ⟨_, s, rfl, q⟩
    | bk e1 => exact ⟨_, s, rfl, q⟩
    | ct e1 => exact ⟨_, s, rfl, q⟩
  | ex cn d e1 => exact ⟨_, s, rfl, q⟩
theorem z_xIf (h : Ok (t env st) fun b s => if b = true then Ok (f env s) Q else Ok (g env s) Q) : Ok (xIf t f g env st) Q := by
  obtain ⟨b, s, e, q⟩ := h
  unfold xIf
  rw [e]
  cases b with
  | true => exact q
  | false => exact q
theorem z_xRaise (h : Ok (fv env st) fun d s => Q (.ex cn d env) s) : Ok (xRaise cn fv env st) Q := by
  obtain ⟨d, s, e, q⟩ := h
  exact ⟨_, s, by unfold xRaise; rw [e], q⟩
theorem z_xL (h : Ok (fs env st) fun o s => Q (.o o) s) : Ok (xL fs env st) Q := by
  obtain ⟨o, s, e, q⟩ := h
  exact ⟨_, s, by unfold xL; rw [e]; rfl, q⟩
theorem z_xNil (q : Q (.o (.nx env)) st) : Ok (xNil env st) Q := ⟨_, st, rfl, q⟩
theorem z_xDrop (h : Ok (fe env st) fun r s => match r with
    | .ok _ => Q (.o (.nx env)) s
    | .ex cn d => Q (.ex cn d env) s) : Ok (xDrop fe env st) Q := by
  obtain ⟨r, s, e, q⟩ := h
  cases r with
  | ok d => exact ⟨_, s, by unfold xDrop; rw [e], q⟩
  | ex cn d => exact ⟨_, s, by unfold xDrop; rw [e], q⟩
theorem z_xRet (h : Ok (fe env st) fun r s => match r with
    | .ok d => Q (.o (.rt d)) s
    | .ex cn d => Q (.ex cn d env) s) : Ok (xRet fe env st) Q := by
  obtain ⟨r, s, e, q⟩ := h
  cases r with
  | ok d => exact ⟨_, s, by unfold xRet; rw [e], q⟩
  | ex cn d => exact ⟨_, s, by unfold xRet; rw [e], q⟩
theorem z_eCallX {gx : FX} {dd : List D} {fa : SA} (h : Ok (fa env st) fun ds s => Ok (gx (ds ++ dd) s) QE) : Ok (eCallX gx dd fa env st) QE := by
  obtain ⟨ds, s, e, q⟩ := h
  unfold eCallX
  rw [e]
  exact q
theorem z_sTry {sub : Str → Str → Option Bool} {l : List Cl} (h : Ok (f env st) fun o s => match o with
    | .o o => QS o s
    | .ex cn d e1 => Ok (hRun sub cn d l e1 s) QS) : Ok (sTry sub f l env st) QS := by
  obtain ⟨o, s, e, q⟩ := h
  unfold sTry
  rw [e]
  cases o with
  | o o => exact ⟨_, s, rfl, q⟩
  | ex cn d e1 => exact q
end
end LW

/-! LwEk: repr of texts and tuples. -/
namespace LW
open PySem L2 Builtin.Str
def cOk (l : List Nat) : Prop := ∀ c ∈ l, c < 0x110000
theorem strOk_iff {x : Str} : PyData.strOk x = true ↔ cOk x.cps.toList := by
  unfold PyData.strOk cOk
  rw [← Array.all_toList, List.all_eq_true]
  exact ⟨fun h c hc => of_decide_eq_true (h c hc), fun h c hc => decide_eq_true (h c hc)⟩
theorem char_lt (c : Char) : c.toNat < 0x110000 := by
  have h := c.valid
  rcases h with h | h
  · exact Nat.lt_trans h (by decide)
  · exact h.2
theorem cOk_hex (w c : Nat) : cOk (let d := (Nat.toDigits 16 c).map Char.toNat; List.replicate (w - d.length) 48 ++ d) := by
  intro n hn
  rcases List.mem_append.mp hn with hn | hn
  · rw [(List.mem_replicate.mp hn).2]; decide
  · obtain ⟨c, _, rfl⟩ := List.mem_map.mp hn
    exact char_lt c
theorem cOk_cons {c : Nat} {l : List Nat} (h : c < 0x110000) (t : cOk l) : cOk (c :: l) := fun n hn => by
  rcases List.mem_cons.mp hn with rfl | hn
  · exact h
  · exact t n hn
theorem cOk_nil : cOk [] := fun n hn => by cases hn
theorem cOk_app {l m : List Nat} (h : cOk l) (t : cOk m) : cOk (l ++ m) := fun n hn => (List.mem_append.mp hn).elim (h n) (t n)
theorem reprChar_ok {q c : Nat} (h : c < 0x110000) : cOk (Builtin.Str.reprChar q c) := by
  unfold Builtin.Str.reprChar
  dsimp only
  repeat' split
  · exact cOk_cons (by decide) (cOk_cons h cOk_nil)
  · exact cOk_cons (by decide) (cOk_cons (by decide) cOk_nil)
  · exact cOk_cons (by decide) (cOk_cons (by decide) cOk_nil)
  · exact cOk_cons (by decide) (cOk_cons (by decide) cOk_nil)
  · exact cOk_cons h cOk_nil
  · exact cOk_app (cOk_cons (by decide) (cOk_cons (by decide) cOk_nil)) (cOk_hex _ _)
  · exact cOk_app (cOk_cons (by decide) (cOk_cons (by decide) cOk_nil)) (cOk_hex _ _)
  · exact cOk_app (cOk_cons (by decide) (cOk_cons (by decide) cOk_nil)) (cOk_hex _ _)
theorem foldl_repr_ok (q : Nat) : ∀ (l : List Nat) (acc : Array Nat), cOk l → cOk acc.toList → cOk (l.foldl (fun out c => out ++ (Builtin.Str.reprChar q c).toArray) acc).toList
  | [], acc, _, h => h
  | c :: r, acc, h, ha => foldl_repr_ok q r _ (fun d hd => h d (List.mem_cons_of_mem _ hd)) (by
      rw [Array.toList_append]
      exact cOk_app ha (reprChar_ok (h c (List.mem_cons_self ..))))
theorem quote_lt (x : Str) : reprQuote x < 0x110000 := by
  unfold reprQuote
  split <;> decide
theorem strOk_repr {x : Str} (h : PyData.strOk x = true) : PyData.strOk (reprText x) = true := by
  rw [strOk_iff] at h ⊢
  unfold reprText
  dsimp only
  rw [Array.toList_push, ← Array.foldl_toList]
  exact cOk_app (foldl_repr_ok _ _ _ h (cOk_cons (quote_lt x) cOk_nil)) (cOk_cons (quote_lt x) cOk_nil)
theorem sh_str {x : Str} (h : PyData.strOk x = true) : Sh (.str x) (10 * x.length + 2) where
  sh := by unfold PyData.showable; rfl
  ln := by
    unfold PyData.shown
    exact StrLaws.reprText_len x fun c hc => Nat.lt_of_lt_of_le (strOk_iff.mp h c hc) (by decide)
  ok := by
    unfold PyData.shown
    exact strOk_repr h
theorem strOk_join {sep : Str} (hs : PyData.strOk sep = true) : ∀ (ts : List Str), (∀ t ∈ ts, PyData.strOk t = true) → PyData.strOk (Str.join sep ts) = true
  | [], _ => strOk_of ""
  | [t], h => h t (by simp)
  | t :: u :: r, h => by
    show PyData.strOk (t ++ sep ++ Str.join sep (u :: r)) = true
    exact strOk_app (strOk_app (h t (by simp)) hs) (strOk_join hs (u :: r) fun z hz => h z (by simp [List.mem_cons.mp hz]))
theorem sh_tup {n : Nat} {xs : List PyData} (h : ∀ x ∈ xs, Sh x n) : Sh (.tuple xs) ((n + 2) * xs.length + 3) := by
  obtain ⟨h1, h2, h3, h4⟩ := sh_all xs h
  refine ⟨by unfold PyData.showable; exact h1, ?_, ?_⟩
  · unfold PyData.shown
    have := tupleText_len_le (PyData.shownAll xs)
    rw [h3] at this
    rw [Nat.add_mul]
    omega
  · unfold PyData.shown tupleText
    refine strOk_app (strOk_app (strOk_of _) (strOk_join (strOk_of _) _ h4)) ?_
    split <;> exact strOk_of _
end LW

/-! LwFa: a new list as a cell, anywhere in an expression; loops over a cell of any things. -/
namespace LW
open PySem L2 PyProof.Rows
def eCel (f : Fx (List D)) : SE := fun env st => match f env st with
  | some (xs, s1) => some (.cell s1.length, s1 ++ [xs])
  | none => none
section
variable {mg : Glob} {N N' : Prot} {c c' : List Addr} {H H' : Hp} {st st' : Sto} {v : V} {xs : List D}
theorem Wd.cellN {p : Addr} {vs : List V} (W : Wd mg N c H st) (np : N p) (nc : p ∉ c) (hp : H p = some (.lst vs)) (r : RepL mg N c H vs xs) : Wd mg N (c ++ [p]) H (st ++ [xs]) := by
  have hl := W.len
  have tr : Tr N c H N (c ++ [p]) H := ⟨fun _ _ e _ => e, fun a z => .inl z, fun k a e => by rw [List.getElem?_append_left (List.getElem?_eq_some_iff.mp e).1]; exact e⟩
  refine ⟨by rw [List.length_append, List.length_append, hl]; rfl, fun k a ys h1 h2 => ?_, fun a z => ?_, ?_, W.trk⟩
  · by_cases hk : k < c.length
    · rw [List.getElem?_append_left hk] at h1
      rw [List.getElem?_append_left (by omega)] at h2
      obtain ⟨us, ha, rr⟩ := W.sto k a ys h1 h2
      exact ⟨us, ha, rr.tr tr⟩
    · rw [List.getElem?_append_right (by omega)] at h1 h2
      by_cases e : k - c.length = 0
      · rw [e] at h1
        rw [← hl, e] at h2
        cases h1
        cases h2
        exact ⟨vs, hp, r.tr tr⟩
      · rw [List.getElem?_eq_none (by simp; omega)] at h1
        cases h1
  · rcases List.mem_append.mp z with z | z
    · exact W.cn a z
    · have e : a = p := by simpa using z
      rw [e]; exact np
  · exact List.nodup_append.mpr ⟨W.nd, by simp, fun a ha b hb => by
      have e : b = p := by simpa using hb
      rw [e]
      exact fun z => nc (z ▸ ha)⟩
theorem RN.cel (W : Wd mg N c H st) (x : Ex N c H N' c' H') (W' : Wd mg N' c' H' st') (h : RN mg N c H N' c' H' v xs) : ∃ c'', Ex N c H N' c'' H' ∧ Wd mg N' c'' H' (st' ++ [xs]) ∧ Rep mg N' c'' H' v (.cell st'.length) := by
  obtain ⟨p, vs, rfl, hn, np, nc, hp, r⟩ := h
  refine ⟨c' ++ [p], ⟨x.keep, x.new, x.mono, fun k a e => ?_, fun a z => ?_⟩, W'.cellN np nc hp r, .cell ?_⟩
  · have e' := x.pre k a e
    rw [List.getElem?_append_left (List.getElem?_eq_some_iff.mp e').1]
    exact e'
  · rcases List.mem_append.mp z with z | z
    · exact x.newc a z
    · have e : a = p := by simpa using z
      rw [e]; exact .inr hn
  · rw [← W'.len, List.getElem?_append_right (Nat.le_refl _)]
    simp
end
section
variable {mg : Glob} {X : Cx} {e : Expr} {f : Fx (List D)}
theorem d_cell (h : PE X e (tL mg f)) : PE X e (tE mg (eCel f)) := pe_weak h fun σ H Q ⟨E, N, c, env, st, d, st', R, q, k⟩ => by
  unfold eCel at q
  split at q
  · rename_i xs s1 q1
    cases q
    refine ⟨E, N, c, env, st, xs, s1, R, q1, fun v N' c' H' x W r => ?_⟩
    obtain ⟨c'', x2, W2, r2⟩ := r.cel R.wd x W
    exact k v N' c'' H' x2 W2 r2
  · cases q
end
/-! ### loops over a cell of any things -/
open Classical in
noncomputable def iSeqW (f : SE) : Fx Src := fun env st => match f env st with
  | some (.lst xs, s1) => some ((xs, noChk), s1)
  | some (.tup xs, s1) => some ((xs, noChk), s1)
  | some (.cell k, s1) => match s1[k]? with
    | some xs => some ((xs, fun st => decide (st[k]? = some xs)), s1)
    | none => none
  | _ => none
section
variable {mg : Glob} {N : Prot} {c : List Addr} {H : Hp} {K : PySem.W.Frag}
open Classical in
theorem il_cellW {k : Nat} {a : Addr} {xs : List D} (hk : c[k]? = some a) : ItL mg (Itl K a) (xs, fun st => decide (st[k]? = some xs)) N c H := by
  have look : ∀ N' c' H' (st : Sto), Sx N c H N' c' H' → Wd mg N' c' H' st → decide (st[k]? = some xs) = true → ∃ vs, H' a = some (.lst vs) ∧ RepL mg N' c' H' vs xs := fun N' c' H' st sx W e => W.sto k a xs (sx.pre k a hk) (of_decide_eq_true e)
  refine ⟨fun N' c' H' st sx W e => ?_, fun i N' c' H' st hi sx W e => ?_, fun i N' c' H' st x H2 hi sx W e y => ?_⟩
  · obtain ⟨vs, ha, r⟩ := look N' c' H' st sx W e
    exact ⟨vs, SqL.of ha, by rw [r.length]; exact Nat.le_refl _⟩
  · obtain ⟨vs, ha, r⟩ := look N' c' H' st sx W e
    obtain ⟨v, hv, _⟩ := r.get (List.getElem?_eq_getElem hi)
    exact ⟨vs, v, SqL.of ha, hv⟩
  · obtain ⟨rfl, hy⟩ := y
    obtain ⟨vs, ha, r⟩ := look N' c' _ st sx W e
    obtain ⟨v, hv, rv⟩ := r.get (List.getElem?_eq_getElem hi)
    have e2 := hy vs (SqL.of ha)
    rw [hv] at e2
    cases e2
    exact ⟨xs[i], List.getElem?_eq_getElem hi, Ex.refl, W, rv⟩
end
section
variable {mg : Glob} {X : Cx} {tg e : Expr} {fe : SE}
theorem i_seqW (h : PE X e (tE mg fe)) (hK : X.K = mg.K := by rfl) : PI X tg e (tI mg (iSeqW fe)) := pi_weak (pi_or (pi_list h) (pi_tup h)) fun σ H R' ⟨E, N, c, env, st, xs, st', R, q, k⟩ => by
  unfold iSeqW at q
  split at q
  · rename_i ys s1 q1
    cases q
    refine .inl ⟨E, N, c, env, st, _, _, R, q1, fun v N1 c1 H1 x1 W1 r1 => ?_⟩
    cases r1 with
    | lst ha n r => exact ⟨_, rfl, ⟨_, SqL.of ha⟩, k _ N1 c1 H1 x1 W1 (il_list ha n r)⟩
  · rename_i ys s1 q1
    cases q
    refine .inr ⟨E, N, c, env, st, _, _, R, q1, fun v N1 c1 H1 x1 W1 r1 => ?_⟩
    cases r1 with
    | tup ha n r => exact ⟨_, rfl, ⟨_, SqT.of ha⟩, k _ N1 c1 H1 x1 W1 (il_tup ha n r)⟩
  · rename_i kk s1 q1
    split at q
    · rename_i ns hn
      cases q
      refine .inl ⟨E, N, c, env, st, _, _, R, q1, fun v N1 c1 H1 x1 W1 r1 => ?_⟩
      cases r1 with
      | cell hk =>
        obtain ⟨vs, ha, _⟩ := W1.sto kk _ ns hk hn
        exact ⟨_, rfl, ⟨_, SqL.of ha⟩, k _ N1 c1 H1 x1 W1 (il_cellW hk)⟩
    · cases q
  · cases q
end
section
variable {env : Env} {st : Sto} {fe : SE} {f : Fx (List D)} {Q : D → Sto → Prop} {QI : Src → Sto → Prop}
theorem z_cel (h : Ok (f env st) fun xs s => Q (.cell s.length) (s ++ [xs])) : Ok (eCel f env st) Q := by
  obtain ⟨xs, s, e, q⟩ := h
  exact ⟨_, _, by unfold eCel; rw [e], q⟩
theorem z_seqW (h : Ok (fe env st) fun d s => ∃ xs, (d = .lst xs ∨ d = .tup xs) ∧ QI (xs, noChk) s) : Ok (iSeqW fe env st) QI := by
  obtain ⟨d, s, e, xs, h, q⟩ := h
  rcases h with rfl | rfl
  · exact ⟨_, s, by unfold iSeqW; rw [e], q⟩
  · exact ⟨_, s, by unfold iSeqW; rw [e], q⟩
open Classical in
theorem z_seqWC (h : Ok (fe env st) fun d s => ∃ k xs, d = .cell k ∧ s[k]? = some xs ∧ QI (xs, fun s => decide (s[k]? = some xs)) s) : Ok (iSeqW fe env st) QI := by
  obtain ⟨d, s, e, k, xs, rfl, h, q⟩ := h
  exact ⟨_, s, by unfold iSeqW; rw [e]; dsimp only; rw [h], q⟩
end
end LW

/-! LwFb: classes whose __init__ may raise. -/
namespace LW
open PySem L2 PyProof.Rows
inductive RIX where
  | ok (ns : List Str) (vs : List D) | ex (cn : Str) (d : D)
abbrev FIX := List D → Sto → Option (RIX × Sto)
def ArIX (n : Nat) (g : FIX) : Prop := ∀ ds st r, g ds st = some r → ds.length = n
def PostI (mg : Glob) (C x : Addr) (N : Prot) (c : List Addr) (H : Hp) (Q : VK) (E : XK) (r : RIX) (st' : Sto) : Prop := match r with
  | .ok ns fds => ∀ N' c' H' dx' fs, (∀ a o, H a = some o → a ∉ c → a ≠ x → H' a = some o) → (∀ a, N' a → N a ∨ H a = none) → (∀ a, N a → N' a) → (∀ (k : Nat) a, c[k]? = some a → c'[k]? = some a) → (∀ a, a ∈ c' → a ∈ c ∨ H a = none) →
    Wd mg N' c' H' st' → H' x = some (.ins C dx' fs) → fs.map (·.1) = ns → RepL mg N' c' H' (fs.map (·.2)) fds → Q .non H'
  | .ex cn d => ∀ N' c' H' cls dd, (∀ a o, H a = some o → a ∉ c → a ≠ x → H' a = some o) → (∀ a, N' a → N a ∨ H a = none) → (∀ a, a ≠ x → N a → N' a) → (∀ (k : Nat) a, c[k]? = some a → c'[k]? = some a) → (∀ a, a ∈ c' → a ∈ c ∨ H a = none) →
    Wd mg N' c' H' st' → XcP mg N' c' H' cls dd cn d → E cls dd H'
def spIX (mg : Glob) (cn : Str) (g : FIX) (n : Nat) : Sp := fun vs H Q E => vs.length = n + 1 ∧ ∃ (N : Prot) (c : List Addr) (x dx C : Addr) (us : List V) (ds : List D) (st : Sto) (r : RIX) (st' : Sto),
  vs = .ref x :: us ∧ mg.mg cn = some (.ref C) ∧ H x = some (.ins C dx []) ∧ N x ∧ x ∉ c ∧ Wd mg N c H st ∧ RepL mg N c H us ds ∧ g ds st = some (r, st') ∧ PostI mg C x N c H Q E r st'
def initMX (cn : Str) (n m : Nat) (body : SX) : FIX := fun ds st => if ds.length = n then (match body (.ownI cn [] [] :: env0 (m - 1) ds) st with
  | some (.o (.nx e), s1) => match fldsOf cn (e[0]?) with
    | some p => some (.ok p.1 p.2, s1)
    | none => none
  | some (.ex c d _, s1) => some (.ex c d, s1)
  | _ => none) else none
theorem initMX_ar {cn : Str} {n m : Nat} {body : SX} : ArIX n (initMX cn n m body) := fun ds st r h => by
  unfold initMX at h
  split at h
  · rename_i e; exact e
  · cases h
section
variable {P : Program} {w : World} {K : PySem.W.Frag} {mg : Str → Option Value} {base : Heap}
theorem fn_IX {cn x qual : Str} {st : Stmt} {f : Addr} {fd : FuncData} {nm ps : List Str} {k n : Nat} {body : SX} (F : Fun K x qual st f fd) (S : FnScope nm ps (defScope st)) (hn : ps.length = n + 1) (hm : nm.length = nm.length - 1 + 1)
    (hbody : ∀ (cdv : Value) (A : Around) (outer : List PySem.Env) (s : Shared) (H : Hp) (E : XK), Room k (A.deeper (envOfC qual (defScope st) s.heap.objs.size f cdv)) →
      PSs (cxOf (L2.CX P w) P w K mg base nm qual (defScope st) f cdv A outer s H E) (defBody st) (tSX ⟨mg, K⟩ (fun cls d _ H => E cls d H) body)) :
    FnOk P w K mg base (L2.CX P w) (k + 1) f fd ps (spIX ⟨mg, K⟩ cn (initMX cn n nm.length body) n) := by
  refine F.okX S (fun vs H Q E h => by rw [h.1, hn]) fun cdv A outer s H vs Q E hr h => ⟨_, hbody cdv A outer s H E hr, ?_⟩
  obtain ⟨_, N, c, z, dz, C, us, ds, st0, rr0, st', rfl, hC, hz, nz, ncz, W, r, q, kk⟩ := h
  have hs : L2.start nm (.ref z :: us) = some (.ref z) :: (us.map some ++ List.replicate (nm.length - 1 - us.length) none) := by
    unfold L2.start
    rw [List.map_cons, List.length_cons, List.cons_append]
    congr 2
    congr 1
    omega
  have R0 := rel0 (nm := List.replicate (nm.length - 1) ("" : Str)) W r
  have e0 : env0 (nm.length - 1) ds = env0 (List.replicate (nm.length - 1) ("" : Str)).length ds := by rw [List.length_replicate]
  have s0 : (us.map some ++ List.replicate (nm.length - 1 - us.length) none : L2.St) = L2.start (List.replicate (nm.length - 1) ("" : Str)) us := by
    unfold L2.start
    rw [List.length_replicate]
  have R : Rel ⟨mg, K⟩ ⟨fun a => if a = z then none else H a, fun a => N a ∧ a ≠ z, c, some z⟩ N c (.ownI cn [] [] :: env0 (nm.length - 1) ds) st0 (L2.start nm (.ref z :: us)) H := by
    rw [hs, e0, s0]
    refine ⟨by rw [List.length_cons, List.length_cons, R0.len], fun i s e => ?_, fun i s a e ho es => ?_, fun i j s s' a e1 o1 e2 o2 h1 h2 => ?_, W, fun a h => h.1, fun a h e => ?_, fun a o e nc => ?_, fun _ _ h => h, fun _ h => .inl h, fun i cn' ns' ds' a e es => ?_⟩
    · cases i with
      | zero => cases e; exact ⟨z, C, dz, [], rfl, hC, hz, rfl, .nil⟩
      | succ i => exact R0.sl i s e
    · cases i with
      | zero => cases es; exact ⟨nz, ncz, if_pos rfl⟩
      | succ i => rw [env0_noOwn e] at ho; cases ho
    · cases i with
      | zero =>
        cases j with
        | zero => rfl
        | succ j => rw [env0_noOwn e2] at o2; cases o2
      | succ i => rw [env0_noOwn e1] at o1; cases o1
    · exact W.trk a h.1 ((if_neg h.2).symm.trans e)
    · by_cases q : a = z
      · exact absurd ((if_pos q).symm.trans e) (by simp)
      · exact (if_neg q).symm.trans e
    · cases i with
      | zero => cases es; rfl
      | succ i =>
        have := env0_noOwn e
        cases this
  unfold initMX at q
  split at q
  · rename_i hl
    split at q
    · rename_i e1 s1 q1
      split at q
      · rename_i pr hf
        cases q
        refine ⟨_, N, c, _, st0, .o (.nx e1), _, R, q1, fun N' c' σ' H' sx R' => ?_⟩
        have he := fldsOf_ok hf
        obtain ⟨a, C', dx', fs', ea, hc, ha, hnm, rr⟩ := R'.sl 0 _ he
        have ea := join_some ea
        have ez : some z = some a := R'.slf 0 _ _ _ a he ea
        cases ez
        obtain ⟨nz', ncz', _⟩ := R'.own 0 _ z he rfl ea
        have ec : C' = C := by
          have := hc.symm.trans hC
          cases this; rfl
        subst ec
        refine kk N' c' H' dx' fs' (fun b o hb nb ne => ?_) sx.new (fun b hb => ?_) R'.pre (fun b hb => ?_) R'.wd ha hnm rr
        · have h0 : (fun a => if a = z then none else H a : Hp) b = some o := (if_neg ne).trans hb
          refine R'.base b o h0 fun q => ?_
          rcases R'.newc b q with q | q
          · exact nb q
          · exact absurd (h0.symm.trans q) (by simp)
        · by_cases q : b = z
          · rw [q]; exact nz'
          · exact R'.n0 b ⟨hb, q⟩
        · rcases R'.newc b hb with q | q
          · exact .inl q
          · by_cases q2 : b = z
            · exact absurd (q2 ▸ hb) ncz'
            · exact .inr ((if_neg q2).symm.trans q)
      · cases q
    · rename_i cx d e1 s1 q1
      cases q
      refine ⟨_, N, c, _, st0, .ex cx d e1, _, R, q1, fun N' c' σ' H' cls dd sx R' xc => ?_⟩
      have ncz' : z ∉ c' := fun q => by
        rcases sx.newc z q with q | q
        · exact ncz q
        · rw [hz] at q; cases q
      refine kk N' c' H' cls dd (fun b o hb nb ne => ?_) sx.new (fun b q hb => R'.n0 b ⟨hb, q⟩) R'.pre (fun b hb => ?_) R'.wd xc
      · have h0 : (fun a => if a = z then none else H a : Hp) b = some o := (if_neg ne).trans hb
        refine R'.base b o h0 fun q => ?_
        rcases R'.newc b q with q | q
        · exact nb q
        · exact absurd (h0.symm.trans q) (by simp)
      · rcases R'.newc b hb with q | q
        · exact .inl q
        · by_cases q2 : b = z
          · exact absurd (q2 ▸ hb) ncz'
          · exact .inr ((if_neg q2).symm.trans q)
    · cases q
  · cases q
end
def eMakeX (cn : Str) (g : FIX) (dd : List D) (f : SA) : EX := fun env st => match f env st with
  | none => none
  | some (ds, s1) => match g (ds ++ dd) s1 with
    | none => none
    | some (.ok ns fds, s2) => some (.ok (.obj cn ns fds), s2)
    | some (.ex c d, s2) => some (.ex c d, s2)
section
variable {mg : Glob} {X : Cx} {W : WX} {k : Nat} {f C : Addr} {fd : FuncData} {ps : List Str} {g : FIX} {n : Nat} {dvs : List V} {ds : List Value} {dd : List D} {x : Str} {p pos : Pos} {e : Expr} {es : List Expr} {fs : SA}
theorem run_makeX {CX : CXT} {sp : Sp} {E : XK} {pins : List (Addr × Obj)} {σ : L2.St} {H : Hp} {s : Shared} {Q : VK} {us : List Value} {vs : List V} (M : Mk X.K C f) (F : FnOk X.prog X.w X.K X.mg X.base CX k f fd ps sp) (hr : Room (k + 1) X.A) (hb : Binds X.K fd ps ds) (hd : Vals dvs ds)
    (hx : PassesAt CX X σ E) (I : Inv X pins σ H s) (r : Vals vs us)
    (h : ∀ x dx, H x = none → H dx = none → dx ≠ x → sp (.ref x :: (vs ++ dvs)) (upd (upd H dx (.own x)) x (.ins C dx [])) (fun v H2 => v = .non ∧ Q (.ref x) H2) E) :
    wpAny (model X.prog X.w) X.A (call (.ref C) us) (EP X pins σ Q) X.xe s := by
  have hq := h (s.heap.objs.size + 1) s.heap.objs.size (I.hok.fresh (Nat.le_succ _)) (I.hok.fresh (Nat.le_refl _)) (Nat.ne_of_lt (Nat.lt_succ_self _))
  have I2 := Inv.made (C := C) I
  have r2 : Vals (V.ref (s.heap.objs.size + 1) :: (vs ++ dvs)) (Value.ref (s.heap.objs.size + 1) :: (us ++ ds)) := .cons rfl (r.append hd)
  have hl : (Value.ref (s.heap.objs.size + 1) :: us ++ ds).length = ps.length := by
    have e := r2.length
    rw [F.len _ _ _ _ hq] at e
    exact e.symm
  refine wpAny_call (make_map (f := f) I.kIn M.makes M.init (beq_iff_eq.mp M.fn) (codeAny_mono (F.run _ X.stack _ _ ⟨Value.ref (s.heap.objs.size + 1) :: us, []⟩ (Value.ref (s.heap.objs.size + 1) :: (us ++ ds)) _ _ E (hr.make C us [])
    (I2.env0.make C us []) (hb _ (Value.ref (s.heap.objs.size + 1) :: us) I2.kIn hl) r2 hq) fun r s' hq' => ?_))
  cases r with
  | error e => exact hx pins _ _ e s' I2 hq'
  | ok fl =>
    cases fl with
    | ret u =>
      obtain ⟨v, H', I3, rv, ev, q3⟩ := I2.after hq'
      subst ev
      exact ⟨rv, ⟨V.ref (s.heap.objs.size + 1), H', I3, rfl, q3⟩⟩
    | next => exact False.elim hq'
    | brk => exact False.elim hq'
    | cont => exact False.elim hq'
/-- cn(e, ..), the class's __init__ may raise -/
theorem d_makeX (M : Mk X.K C f) (F : FnOk X.prog X.w X.K X.mg X.base (L2.CX X.prog X.w) k f fd ps (spIX mg x g n)) (har : ArIX n g) (hr : Room (k + 1) X.A) (hm : X.mg x = some (.ref C)) (hb : Binds X.K fd ps ds) (hd : Vals dvs ds) (hdd : Dfl mg dvs dd) (tk : Takes X W) (ha : PA X (e :: es) (tA mg fs))
    (hM : X.mg = mg.mg := by rfl) (hg : Gl X x := by rfl) (hdb : (x == ("__debug__" : Str)) = false := by decide) (he : starEach (e :: es) X.env = (false, eval e X.env) :: starEach es X.env := by rfl) (hpl : (backTo pos (starEach es X.env)).any (·.1) = false := by rfl) :
    PE X (.Call (.Name x p) (e :: es) [] pos) (tEX mg W (eMakeX x g dd fs)) := by
  refine ⟨fun pins s σ H Q I ⟨E0, N, c, env, st, r, st', R, q, kk⟩ => ?_⟩
  unfold eMakeX at q
  split at q
  · cases q
  · rename_i xs s1 q1
    refine wpAny_Call_Name_kw (ld_glob I hg hm ?_ hdb)
    have h2 : tA mg fs σ H (fun vs H1 => ∀ z dz, H1 z = none → H1 dz = none → dz ≠ z → spIX mg x g n (.ref z :: (vs ++ dvs)) (upd (upd H1 dz (.own z)) z (.ins C dz [])) (fun v H2 => v = .non ∧ Q (.ref z) H2) (WE W σ)) := by
      refine ⟨E0, N, c, env, st, xs, s1, R, q1, fun vs N1 c1 H1 x1 W1 r1 z dz hz hdz hne => ?_⟩
      have r2 := r1.append (hdd N1 c1 H1)
      have xa := Ex.laid (o := .own z) W1 hdz
      have Wa := W1.laid (o := .own z) hdz
      have hz' : (upd H1 dz (.own z)) z = none := by rw [upd_ne (Ne.symm hne)]; exact hz
      have xb := Ex.laidN (o := .ins C dz []) Wa hz'
      have Wb := Wa.laidN (o := .ins C dz []) hz'
      have xab := xa.trans xb W1
      have r3 := r2.tr (xab.tr W1)
      have free1 : ∀ a, (upd (upd H1 dz (.own z)) z (.ins C dz [])) a = none → H1 a = none := fun a e => by
        by_cases q1 : a = z
        · rw [q1]; exact hz
        · rw [upd_ne q1] at e
          by_cases q2 : a = dz
          · rw [q2]; exact hdz
          · rw [upd_ne q2] at e; exact e
      split at q
      · cases q
      · rename_i ns fds s2 q2
        cases q
        refine ⟨by show (vs ++ dvs).length + 1 = n + 1; rw [r2.length, har _ _ _ q2], _, c1, z, dz, C, vs ++ dvs, xs ++ dd, s1, _, _, rfl, hM ▸ hm, upd_same, .inr rfl, Wa.cnone hz', Wb, r3, q2, ?_⟩
        intro N' c' H' dx' fs' h1 h2 h3 h4 h5 W' h6 h7 r4
        refine ⟨rfl, ?_⟩
        have nz : z ∉ c' := fun q => (h5 z q).elim (Wa.cnone hz') fun e => by rw [upd_same] at e; cases e
        have less : ∀ a, (N' a ∧ a ≠ z) → N' a := fun a q => q.1
        have xx : Ex N1 c1 H1 (fun a => N' a ∧ a ≠ z) c' H' := by
          refine ⟨fun a o e nc => ?_, fun a q => ?_, fun a q => ?_, h4, fun a q => ?_⟩
          · have n1 : a ≠ z := ne_of_none e hz
            have n2 : a ≠ dz := ne_of_none e hdz
            exact h1 a o (by rw [upd_ne n1, upd_ne n2]; exact e) nc n1
          · rcases h2 a q.1 with (z1 | z1) | z1
            · exact .inl z1
            · exact absurd z1 q.2
            · exact .inr (free1 a z1)
          · exact ⟨h3 a (.inl q), fun e => W1.trk a q (by rw [e]; exact hz)⟩
          · exact (h5 a q).elim .inl fun e => .inr (free1 a e)
        have W2 : Wd mg (fun a => N' a ∧ a ≠ z) c' H' _ := W'.less less fun a q => ⟨W'.cn a q, fun e => nz (e ▸ q)⟩
        exact kk _ _ _ _ (x1.trans xx R.wd) W2 (.obj (hM ▸ hm) h6 (fun q => q.2 rfl) h7 (r4.tr (Tr.less less)))
      · rename_i cx d s2 q2
        cases q
        refine ⟨by show (vs ++ dvs).length + 1 = n + 1; rw [r2.length, har _ _ _ q2], _, c1, z, dz, C, vs ++ dvs, xs ++ dd, s1, _, _, rfl, hM ▸ hm, upd_same, .inr rfl, Wa.cnone hz', Wb, r3, q2, ?_⟩
        intro N' c' H' cls da h1 h2 h3 h4 h5 W' xc
        refine kk N' c' H' cls da (x1.trans ⟨fun a o e nc => ?_, fun a q => ?_, fun a q => ?_, h4, fun a q => ?_⟩ R.wd) W' xc
        · have n1 : a ≠ z := ne_of_none e hz
          have n2 : a ≠ dz := ne_of_none e hdz
          exact h1 a o (by rw [upd_ne n1, upd_ne n2]; exact e) nc n1
        · rcases h2 a q with (z1 | z1) | z1
          · exact .inl z1
          · exact .inr (z1 ▸ hz)
          · exact .inr (free1 a z1)
        · exact h3 a (fun e => W1.trk a q (by rw [e]; exact hz)) (.inl q)
        · exact (h5 a q).elim .inl fun e => .inr (free1 a e)
    refine PySem.W.callWith_K (h₀ := X.base) I.ok.mod.kin M.kp (thn (ha.run pos pins s σ H _ I h2) fun us s2 ⟨vs, H1, I1, r1, q1⟩ => ⟨I1.kIn, ?_⟩) he hpl
    exact run_makeX M F hr hb hd (passAt tk σ) I1 r1 q1
end
end LW

/-! LwFc: short words for classes whose __init__ may raise. -/
namespace LW
open PySem L2 PyProof.Rows
section
variable (P : Program) (w : World) (K : PySem.W.Frag) (mg : Str → Option Value) (base : Heap)
def OkCX (k : Nat) (cn : Str) (C : Addr) (n : Nat) (ps : List Str) (g : FIX) : Prop := ∃ f fd, Mk K C f ∧ FnOk P w K mg base (L2.CX P w) k f fd ps (spIX ⟨mg, K⟩ cn g n) ∧ Binds K fd ps [] ∧ ArIX n g
end
section
variable {P : Program} {w : World} {K : PySem.W.Frag} {mg : Str → Option Value} {base : Heap} {k n : Nat} {cn qual : Str} {C : Addr} {st : Stmt} {nm ps : List Str} {body : SX}
theorem okCX_mk (F : ∃ f fd, Mk K C f ∧ Fun K "__init__" qual st f fd) (S : FnScope nm ps (defScope st)) (hn : ps.length = n + 1) (hm : nm.length = nm.length - 1 + 1)
    (hb : ∀ (kV doc pm : Value) (an : Option Addr) (cdv ct : Value) (us : List Value), us.length = ps.length → bindArgs (PySem.W.fnOf "__init__" qual (defArgs st) (defBody st) (defScope st) .none kV doc pm an cdv ct) ⟨us, []⟩ = pure (ps.zip us))
    (hbody : ∀ (f : Addr) (cdv : Value) (A : Around) (outer : List PySem.Env) (s : Shared) (H : Hp) (E : XK), Room k (A.deeper (envOfC qual (defScope st) s.heap.objs.size f cdv)) →
      Takes (cxOf (L2.CX P w) P w K mg base nm qual (defScope st) f cdv A outer s H E) (fun cls d _ H => E cls d H) →
      PSs (cxOf (L2.CX P w) P w K mg base nm qual (defScope st) f cdv A outer s H E) (defBody st) (tSX ⟨mg, K⟩ (fun cls d _ H => E cls d H) body)) : OkCX P w K mg base (k + 1) cn C n ps (initMX cn n nm.length body) := by
  obtain ⟨f, fd, hM, F⟩ := F
  exact ⟨f, fd, hM, fn_IX F S hn hm fun cdv A outer s H E hr => hbody f cdv A outer s H E hr (takes_of rfl rfl rfl rfl), F.binds hb, initMX_ar⟩
end
section
variable {mg : Glob} {X : Cx} {W : WX} {k n : Nat} {C : Addr} {ps : List Str} {g : FIX} {x : Str} {p pos : Pos} {e : Expr} {es : List Expr} {fs : SA}
theorem x_make (h : OkCX X.prog X.w X.K X.mg X.base k x C n ps g) (hC : X.mg x = some (.ref C)) (hr : Room (k + 1) X.A) (tk : Takes X W) (ha : PA X (e :: es) (tA mg fs)) (hM : mg = ⟨X.mg, X.K⟩ := by rfl)
    (hg : Gl X x := by rfl) (hdb : (x == ("__debug__" : Str)) = false := by decide) (he : starEach (e :: es) X.env = (false, eval e X.env) :: starEach es X.env := by rfl) (hpl : (backTo pos (starEach es X.env)).any (·.1) = false := by rfl) :
    PE X (.Call (.Name x p) (e :: es) [] pos) (tEX mg W (eMakeX x g [] fs)) := by
  subst hM
  obtain ⟨f, fd, M, F, hb, har⟩ := h
  exact d_makeX M F har hr hC hb .nil dfl_nil tk ha rfl hg hdb he hpl
end
/-! ### forward rules -/
section
variable {env : Env} {st : Sto} {QE : RX → Sto → Prop}
theorem z_eMakeX {cn : Str} {gx : FIX} {dd : List D} {fa : SA} (h : Ok (fa env st) fun ds s => Ok (gx (ds ++ dd) s) fun r s2 => QE (match r with
    | .ok ns fds => .ok (.obj cn ns fds)
    | .ex c d => .ex c d) s2) : Ok (eMakeX cn gx dd fa env st) QE := by
  obtain ⟨ds, s, e, r, s2, e2, q⟩ := h
  cases r with
  | ok ns fds => exact ⟨_, s2, by unfold eMakeX; rw [e]; dsimp only; rw [e2], q⟩
  | ex c d => exact ⟨_, s2, by unfold eMakeX; rw [e]; dsimp only; rw [e2], q⟩
theorem z_initX {cn : Str} {n m : Nat} {f : SX} {ds : List D} {Q : RIX → Sto → Prop} (hl : ds.length = n) (h : Ok (f (.ownI cn [] [] :: env0 (m - 1) ds) st) fun o s => match o with
    | .o (.nx e) => ∃ p, fldsOf cn (e[0]?) = some p ∧ Q (.ok p.1 p.2) s
    | .ex c d _ => Q (.ex c d) s
    | _ => False) : Ok (initMX cn n m f ds st) Q := by
  obtain ⟨o, s, e, q⟩ := h
  cases o with
  | o o =>
    cases o with
    | nx e1 =>
      obtain ⟨p, e2, q⟩ := q
      exact ⟨_, s, by unfold initMX; rw [if_pos hl, e]; dsimp only; rw [e2], q⟩
    | _ => exact q.elim
  | ex c d e1 => exact ⟨_, s, by unfold initMX; rw [if_pos hl, e], q⟩
end
end LW

/-! LwFd: xs == [] , the things in xs of any kind. -/
namespace L2
open PySem PySem.Spec PyProof.Rows
def rEqN (K : PySem.W.Frag) : R2 := fun x y H Q => ∃ (a b : Addr) (xs : List V), x = .ref a ∧ y = .ref b ∧ SqL K H a xs ∧ SqL K H b [] ∧ Q (.bl xs.isEmpty) H
theorem op_eqN {X : Cx} (hu : X.A.units < cLine) : OpR X (compareOp .Eq) (rEqN X.K) := by
  intro pins s σ H x y v u Q I rx ry h
  obtain ⟨a, b, xs, rfl, rfl, ha, hb, q⟩ := h
  obtain rfl : v = Value.ref a := rx
  obtain rfl : u = Value.ref b := ry
  obtain ⟨us, r1, p1, _⟩ := I.list ha
  obtain ⟨ws, r2, p2, _⟩ := I.list hb
  cases r2
  cases xs with
  | nil =>
    cases r1
    have rc := SeqAt.RcAt.lists (A := X.A) (e := fun _ => true) (plainL_is p1) (plainL_is p2) rfl hu (fun j h1 h2 => absurd h1 (by simp))
    exact rc X.prog X.w X.xe _ ⟨.bl true, H, I, rfl, q⟩
  | cons y ys =>
    have hz : (us.toArray.size != ([] : List Value).toArray.size) = true := by
      have l := r1.length
      rw [List.size_toArray, ← l]
      simp
    have rc := SeqAt.RcAt.lists_lengths (A := X.A) (plainL_is p1) (plainL_is p2) hz hu
    exact rc X.prog X.w X.xe _ ⟨.bl false, H, I, rfl, q⟩
end L2
namespace LW
open PySem L2 PyProof.Rows
/-- xs == [] -/
def oEqN : D → D → Sto → Option D := fun x y st => match lstR st x, y with
  | some xs, .lst [] => some (.bl xs.isEmpty)
  | _, _ => none
theorem ok_eqN {mg : Glob} : OpOk mg (RE mg) (rEqN mg.K) oEqN := by
  intro N c H st u v x y d Q W p1 p2 e k
  unfold oEqN at e
  split at e
  · rename_i xs hx
    cases e
    obtain ⟨a, us, rfl, ha, r⟩ := RepT.read W p1 hx
    obtain ⟨b, vs, rfl, hb, r'⟩ := RepT.read W p2 (xs := []) rfl
    cases r'
    refine ⟨a, b, us, rfl, rfl, ha, hb, ?_⟩
    have : us.isEmpty = xs.isEmpty := by cases r <;> rfl
    rw [this]
    exact k _ N c H Ex.refl W (.bl _)
  · cases e
section
variable {mg : Glob} {X : Cx} {a b : Expr} {pos : Pos} {fa fb : SE}
theorem d_eqN (hu : X.A.units < cLine) (ha : PE X a (tP mg fa)) (hb : PE X b (tP mg fb)) (hK : X.K = mg.K := by rfl) : PE X (.Compare a [.Eq] [b] pos) (tE mg (eOp oEqN fa fb)) := d_cmp (hK ▸ op_eqN hu) ok_eqN back_E ha hb (nomark _)
end
end LW

/-! The walk of law_k02_rules_made: printed by gen.py. -/
namespace K02
open PySem L2 LW PyProof.Rows
def topS (i : Nat) : Stmt := PySem.Challenge.pw_leafwaits_k02_rules_made.main.body.getD i (.Pass ⟨0, 0, 0, 0⟩)
abbrev CS : List Str := ["Rule"]
abbrev s__law_purse : Stmt := topS 15
abbrev s__law_purses : Stmt := topS 18
abbrev s__law_mixed : Stmt := topS 16
abbrev s__law_draw : Stmt := topS 17
abbrev s__law_word : Stmt := topS 21
abbrev s__law_shuffled : Stmt := topS 20
abbrev s__law_names : Stmt := topS 22
abbrev s__law_small_wait : Stmt := topS 24
abbrev s__law_one_of : Stmt := topS 19
abbrev s__law_wait : Stmt := topS 23
abbrev s__law_part : Stmt := topS 25
abbrev s__law_term : Stmt := topS 26
abbrev s__law_again : Stmt := topS 30
abbrev s_is_whole : Stmt := topS 6
abbrev s_is_name : Stmt := topS 5
abbrev s_is_term : Stmt := topS 10
abbrev s_are_terms : Stmt := topS 9
abbrev s_is_part : Stmt := topS 11
abbrev s_with_inside : Stmt := topS 12
abbrev s_copied : Stmt := topS 13
abbrev s_Rule___init__ : Stmt := inClass (topS 8) 0
abbrev s__law_spoilt : Stmt := topS 31
abbrev s_copied_c : Stmt := topS 13
abbrev s_Rule_term_c : Stmt := inClass (topS 8) 1
abbrev s_Rule___eq__ : Stmt := inClass (topS 8) 2
abbrev s__law_bent : Stmt := topS 27
abbrev s__law_many : Stmt := topS 32
abbrev s__law_unlike : Stmt := topS 33
abbrev s__law_odd : Stmt := topS 28
abbrev sx_Rule___init__ : Stmt := inClass (topS 8) 0
abbrev s__law_caught : Stmt := topS 29
abbrev s__law_right : Stmt := topS 34
abbrev s_Rule_term : Stmt := inClass (topS 8) 1
abbrev s_law : Stmt := topS 35
structure Txt0 (P : Program) (K : PySem.W.Frag) (mg : Str → Option Value) (C_Rule : Addr) : Prop where
  F_Rule___eq__ : MT K C_Rule "__eq__" "Rule.__eq__" s_Rule___eq__
  F_Rule___init__ : ∃ f fd, Mk K C_Rule f ∧ Fun K "__init__" "Rule.__init__" s_Rule___init__ f fd
  F_Rule_term : MT K C_Rule "term" "Rule.term" s_Rule_term
  F_Rule_term_c : MT K C_Rule "term" "Rule.term" s_Rule_term_c
  F__law_again : FT K mg "_law_again" s__law_again
  F__law_bent : FT K mg "_law_bent" s__law_bent
  F__law_caught : FT K mg "_law_caught" s__law_caught
  F__law_draw : FT K mg "_law_draw" s__law_draw
  F__law_many : FT K mg "_law_many" s__law_many
  F__law_mixed : FT K mg "_law_mixed" s__law_mixed
  F__law_names : FT K mg "_law_names" s__law_names
  F__law_odd : FT K mg "_law_odd" s__law_odd
  F__law_one_of : FT K mg "_law_one_of" s__law_one_of
  F__law_part : FT K mg "_law_part" s__law_part
  F__law_purse : FT K mg "_law_purse" s__law_purse
  F__law_purses : FT K mg "_law_purses" s__law_purses
  F__law_right : FT K mg "_law_right" s__law_right
  F__law_shuffled : FT K mg "_law_shuffled" s__law_shuffled
  F__law_small_wait : FT K mg "_law_small_wait" s__law_small_wait
  F__law_spoilt : FT K mg "_law_spoilt" s__law_spoilt
  F__law_term : FT K mg "_law_term" s__law_term
  F__law_unlike : FT K mg "_law_unlike" s__law_unlike
  F__law_wait : FT K mg "_law_wait" s__law_wait
  F__law_word : FT K mg "_law_word" s__law_word
  F_are_terms : FT K mg "are_terms" s_are_terms
  F_copied : FT K mg "copied" s_copied
  F_copied_c : FT K mg "copied" s_copied_c
  F_is_name : FT K mg "is_name" s_is_name
  F_is_part : FT K mg "is_part" s_is_part
  F_is_term : FT K mg "is_term" s_is_term
  F_is_whole : FT K mg "is_whole" s_is_whole
  F_law : FT K mg "law" s_law
  F_with_inside : FT K mg "with_inside" s_with_inside
  a_Rule_form : NoAttr K C_Rule "form"
  c_Rule : mg "Rule" = some (.ref C_Rule)
  em : EM K mg [("InvalidTerm", "InvalidTerm", true)]
  g_LETTERS : GS mg "LETTERS" "abcdefghijklmnopqrstuvwxyz"
  isi : Isi ⟨mg, K⟩ CS
  k_Rule : Cls K C_Rule
  lf_InvalidTerm : LF P K mg "InvalidTerm"
  n_bool : mg "bool" = none
  n_int : mg "int" = none
  n_isinstance : mg "isinstance" = none
  n_len : mg "len" = none
  n_list : mg "list" = none
  n_max : mg "max" = none
  n_min : mg "min" = none
  n_range : mg "range" = none
  n_repr : mg "repr" = none
  n_str : mg "str" = none
  n_sum : mg "sum" = none
  n_super : mg "super" = none
  n_tuple : mg "tuple" = none
  ne_Rule : PySem.W.findIn K (.ref C_Rule) "__ne__" = some (some (.builtin "object.__ne__"))
  nf_Rule : NotF ⟨mg, K⟩ CS C_Rule
  ob_Rule : PySem.W.mroIn K C_Rule (.type "object") = some true
section
variable {P : Program} {w : World} {K : PySem.W.Frag} {mg : Str → Option Value} {base : Heap} {C_Rule : Addr}
theorem u0 {k : Nat} {A : Around} (r : Room k A) : A.units < cLine := by have := r.un; omega
theorem u1 {k : Nat} {A : Around} (r : Room k A) : A.units + 1 < cLine := by have := r.un; omega
theorem u65 {k : Nat} {A : Around} (r : Room k A) : A.units + 65 < cLine := by have := r.un; omega
theorem u80 {k : Nat} {A : Around} (r : Room k A) : A.units + 80 < cLine := by have := r.un; omega
/-! ### _law_purse -/
noncomputable def b__law_purse : SS := sSeq (sSet 2 (eBi gSum (aCons (eL (eSl slL (ePeek 0) (oSome (ePeek 1)) (oSome (eOp oAdd (ePeek 1) (eC (.int 1)))))) (aNil))))
  (sRetC (lDisp (aCons (eOp oMod (eBi gMax (aCons (eOp oSub (ePeek 2) (eOp oPow (eC (.int 10)) (eC (.int 18)))) (aCons (eC (.int 0)) (aNil)))) (eOp oPow (eOp oPow (eC (.int 10)) (eC (.int 60))) (eC (.int 8)))) (aCons (eOp oMod (ePeek 2) (eC (.int 2147483629))) (aCons (eC (.int 0)) (aCons (eVar 1) (aNil)))))))
noncomputable def m__law_purse : FM := fnM 2 3 b__law_purse
theorem sc__law_purse : FnScope ["_law_script", "_law_at", "_law_seed"] ["_law_script", "_law_at"] (defScope s__law_purse) := ⟨rfl, rfl, rfl, by decide +kernel, rfl, by decide +kernel, by decide +kernel⟩
theorem ok__law_purse (T : Txt0 P K mg C_Rule) : OkF P w K mg base 1 "_law_purse" ["_law_script", "_law_at"] m__law_purse := by
  refine okF_mk (nm := ["_law_script", "_law_at", "_law_seed"]) T.F__law_purse sc__law_purse (fun _ _ _ _ _ _ us hl => match us, hl with | [_, _], _ => rfl) (fun f cdv A outer s H E hr => ?_)
  exact s_cons (s_set (i := 2) sc__law_purse.nd (d_sum rfl (T.n_sum) (p_cons (d_peek (d_give (d_slL (d_look 0) (o_some (d_look 1)) (o_some (d_peek (d_add (d_look 1) (d_peek (d_int)))))))) (p_nil))))
      (s_one (s_retC (d_lst (a_cons (d_mod (d_peek (d_max rfl (T.n_max) (p_cons (d_peek (d_sub (d_look 2) (d_peek (d_pow (d_peek (d_int)) (d_peek (d_int)))))) (p_cons (d_peek (d_int)) (p_nil))))) (d_peek (d_pow (d_peek (d_pow (d_peek (d_int)) (d_peek (d_int)))) (d_peek (d_int))))) (a_cons (d_mod (d_look 2) (d_peek (d_int))) (a_cons (d_int) (a_cons (d_var 1) (a_nil))))))))
/-! ### _law_purses -/
noncomputable def b__law_purses : SS := sRet (eL (lComp (iRg1 (aCons (eBi gMax (aCons (eC (.int 1)) (aCons (eBi gMin (aCons (ePeek 1) (aCons (eBi gLen (aCons (ePeek 0) (aNil))) (aNil)))) (aNil)))) (aNil))) (asgN 2) (bYes) (eCall m__law_purse [] (aCons (eVar 0) (aCons (eVar 2) (aNil)))) [2]))
noncomputable def m__law_purses : FM := fnM 2 3 b__law_purses
theorem sc__law_purses : FnScope ["_law_script", "_law_few", "_law_at"] ["_law_script", "_law_few"] (defScope s__law_purses) := ⟨rfl, rfl, rfl, by decide +kernel, rfl, by decide +kernel, by decide +kernel⟩
theorem ok__law_purses (T : Txt0 P K mg C_Rule) : OkF P w K mg base 2 "_law_purses" ["_law_script", "_law_few"] m__law_purses := by
  refine okF_mk (nm := ["_law_script", "_law_few", "_law_at"]) T.F__law_purses sc__law_purses (fun _ _ _ _ _ _ us hl => match us, hl with | [_, _], _ => rfl) (fun f cdv A outer s H E hr => ?_)
  have hr1 : Room 1 _ := hr.mono (by decide)
  exact s_one (s_ret (d_give (d_lc rfl sc__law_purses.nd (i_rg1 (T.n_range) (p_cons (d_peek (d_max rfl (T.n_max) (p_cons (d_peek (d_int)) (p_cons (d_peek (d_min rfl (T.n_min) (p_cons (d_look 1) (p_cons (d_peek (d_len (T.n_len) (p_cons (d_look 0) (p_nil)))) (p_nil))))) (p_nil))))) (p_nil))) (blkOk_by (own := [("_law_at", 2)]) (by first | (show blkC ["_law_script", "_law_few", "_law_at"] (defScope s__law_purses) _ _ = true; decide +kernel) | kernel_rfl | rfl)) (fun _ _ _ _ _ => t_name (i := 2) sc__law_purses.nd) (gok_name 2) (by decide) (fun _ _ _ _ _ => pts_nilT) (fun _ _ _ _ _ => c_call (ok__law_purse T) hr1 (a_cons (d_var 0) (a_cons (d_var 2) (a_nil)))))))
/-! ### _law_mixed -/
noncomputable def b__law_mixed : SS := sSeq (sSet 3 (eOp oAdd (eOp oMul (ePeek 0) (eC (.int 69069))) (eOp oMul (eOp oMul (eC (.int 104729)) (ePeek 1)) (ePeek 1))))
  (sSeq (sSet 3 (eOp oMod (eOp oAdd (eOp oAdd (ePeek 3) (eOp oMul (eC (.int 7919)) (ePeek 2))) (ePeek 1)) (eC (.int 2147483647))))
  (sSeq (sSet 3 (eOp oMod (eOp oAdd (eOp oMul (ePeek 3) (ePeek 3)) (eC (.int 40503))) (eC (.int 2147483629))))
  (sRet (eOp oMod (eOp oMul (ePeek 3) (eC (.int 48271))) (eC (.int 2147483587))))))
noncomputable def m__law_mixed : FM := fnM 3 4 b__law_mixed
theorem sc__law_mixed : FnScope ["_law_seed", "_law_turn", "_law_at", "_law_mixed_here"] ["_law_seed", "_law_turn", "_law_at"] (defScope s__law_mixed) := ⟨rfl, rfl, rfl, by decide +kernel, rfl, by decide +kernel, by decide +kernel⟩
theorem ok__law_mixed (T : Txt0 P K mg C_Rule) : OkF P w K mg base 1 "_law_mixed" ["_law_seed", "_law_turn", "_law_at"] m__law_mixed := by
  refine okF_mk (nm := ["_law_seed", "_law_turn", "_law_at", "_law_mixed_here"]) T.F__law_mixed sc__law_mixed (fun _ _ _ _ _ _ us hl => match us, hl with | [_, _, _], _ => rfl) (fun f cdv A outer s H E hr => ?_)
  exact s_cons (s_set (i := 3) sc__law_mixed.nd (d_add (d_peek (d_mul (d_look 0) (d_peek (d_int)))) (d_peek (d_mul (d_peek (d_mul (d_peek (d_int)) (d_look 1))) (d_look 1)))))
      (s_cons (s_set (i := 3) sc__law_mixed.nd (d_mod (d_peek (d_add (d_peek (d_add (d_look 3) (d_peek (d_mul (d_peek (d_int)) (d_look 2))))) (d_look 1))) (d_peek (d_int))))
      (s_cons (s_set (i := 3) sc__law_mixed.nd (d_mod (d_peek (d_add (d_peek (d_mul (d_look 3) (d_look 3))) (d_peek (d_int)))) (d_peek (d_int))))
      (s_one (s_ret (d_mod (d_peek (d_mul (d_look 3) (d_peek (d_int)))) (d_peek (d_int)))))))
/-! ### _law_draw -/
noncomputable def b__law_draw : SS := sSeq (sIf (bOf (eOp oGt (eOp oIx (ePeek 0) (eC (.int 0))) (eC (.int 0))))
  (sSeq (sSet 2 (eOp oMod (eOp oIx (ePeek 0) (eC (.int 0))) (ePeek 1)))
  (sSeq (sPutC (eVar 0) (eC (.int 0)) (eOp oDiv (eOp oIx (ePeek 0) (eC (.int 0))) (ePeek 1)))
  (sRet (eVar 2))))
  (sNil))
  (sSeq (sSet 3 (eC (.int 0)))
  (sSeq (sFor (iRg1 (aCons (eOp oAdd (eC (.int 1)) (eOp oDiv (eBits (ePeek 1)) (eC (.int 28)))) (aNil))) (asgN 4)
  (sSeq (sPutC (eVar 0) (eC (.int 2)) (eOp oAdd (eOp oIx (ePeek 0) (eC (.int 2))) (eC (.int 1))))
  (sSet 3 (eOp oAdd (eOp oMul (ePeek 3) (eC (.int 2147483587))) (eCall m__law_mixed [] (aCons (eOp oIx (ePeek 0) (eC (.int 1))) (aCons (eOp oIx (ePeek 0) (eC (.int 2))) (aCons (eOp oIx (ePeek 0) (eC (.int 3))) (aNil)))))))))
  (sRet (eOp oMod (ePeek 3) (ePeek 1)))))
noncomputable def m__law_draw : FM := fnM 2 5 b__law_draw
theorem sc__law_draw : FnScope ["_law_purse_here", "_law_many_here", "_law_drawn", "_law_found", "_law_piece"] ["_law_purse_here", "_law_many_here"] (defScope s__law_draw) := ⟨rfl, rfl, rfl, by decide +kernel, rfl, by decide +kernel, by decide +kernel⟩
theorem ok__law_draw (T : Txt0 P K mg C_Rule) : OkF P w K mg base 2 "_law_draw" ["_law_purse_here", "_law_many_here"] m__law_draw := by
  refine okF_mk (nm := ["_law_purse_here", "_law_many_here", "_law_drawn", "_law_found", "_law_piece"]) T.F__law_draw sc__law_draw (fun _ _ _ _ _ _ us hl => match us, hl with | [_, _], _ => rfl) (fun f cdv A outer s H E hr => ?_)
  have hr1 : Room 1 _ := hr.mono (by decide)
  exact s_cons (s_if (d_testC (d_peek (d_gt (d_peek (d_ix (d_look 0) (d_peek (d_int)))) (d_peek (d_int)))))
      (s_cons (s_set (i := 2) sc__law_draw.nd (d_mod (d_peek (d_ix (d_look 0) (d_peek (d_int)))) (d_look 1)))
      (s_cons (s_putC (d_div (d_peek (d_ix (d_look 0) (d_peek (d_int)))) (d_look 1)) (d_var 0) (d_peek (d_int)) (fun _ => rfl))
      (s_one (s_ret (d_var 2)))))
      (s_nil))
      (s_cons (s_set (i := 3) sc__law_draw.nd (d_int))
      (s_cons (s_for PassesOwn.never rfl (i_rg1 (T.n_range) (p_cons (d_peek (d_add (d_peek (d_int)) (d_peek (d_div (d_peek (d_bits (d_look 1))) (d_peek (d_int)))))) (p_nil))) (t_name (i := 4) sc__law_draw.nd) (gok_name 4)
      (s_cons (s_putC (d_add (d_peek (d_ix (d_look 0) (d_peek (d_int)))) (d_peek (d_int))) (d_var 0) (d_peek (d_int)) (fun _ => rfl))
      (s_one (s_set (i := 3) sc__law_draw.nd (d_add (d_peek (d_mul (d_look 3) (d_peek (d_int)))) (d_peek (c_call (ok__law_mixed T) hr1 (a_cons (d_ix (d_look 0) (d_peek (d_int))) (a_cons (d_ix (d_look 0) (d_peek (d_int))) (a_cons (d_ix (d_look 0) (d_peek (d_int))) (a_nil)))))))))))
      (s_one (s_ret (d_mod (d_look 3) (d_look 1))))))
/-! ### _law_word -/
noncomputable def b__law_word : SS := sSeq (sSet 1 (eC (.str "")))
  (sSeq (sFor (iRg1 (aCons (eOp oAdd (eC (.int 1)) (eCall m__law_draw [] (aCons (eVar 0) (aCons (eC (.int 8)) (aNil))))) (aNil))) (asgN 2)
  (sSet 1 (eOp oAdd (ePeek 1) (eOp oIx (eC (.str "abcdefghijklmnopqrstuvwxyz")) (eCall m__law_draw [] (aCons (eVar 0) (aCons (eC (.int 26)) (aNil))))))))
  (sRet (eVar 1)))
noncomputable def m__law_word : FM := fnM 1 3 b__law_word
theorem sc__law_word : FnScope ["_law_purse_here", "_law_found", "_law_turn"] ["_law_purse_here"] (defScope s__law_word) := ⟨rfl, rfl, rfl, by decide +kernel, rfl, by decide +kernel, by decide +kernel⟩
theorem ok__law_word (T : Txt0 P K mg C_Rule) : OkF P w K mg base 3 "_law_word" ["_law_purse_here"] m__law_word := by
  refine okF_mk (nm := ["_law_purse_here", "_law_found", "_law_turn"]) T.F__law_word sc__law_word (fun _ _ _ _ _ _ us hl => match us, hl with | [_], _ => rfl) (fun f cdv A outer s H E hr => ?_)
  have hr2 : Room 2 _ := hr.mono (by decide)
  exact s_cons (s_set (i := 1) sc__law_word.nd (d_str))
      (s_cons (s_for PassesOwn.never rfl (i_rg1 (T.n_range) (p_cons (d_peek (d_add (d_peek (d_int)) (d_peek (c_call (ok__law_draw T) hr2 (a_cons (d_var 0) (a_cons (d_int) (a_nil))))))) (p_nil))) (t_name (i := 2) sc__law_word.nd) (gok_name 2)
      (s_one (s_set (i := 1) sc__law_word.nd (d_add (d_look 1) (d_peek (d_ix (d_peek (d_str)) (d_peek (c_call (ok__law_draw T) hr2 (a_cons (d_var 0) (a_cons (d_int) (a_nil)))))))))))
      (s_one (s_ret (d_var 1))))
/-! ### _law_shuffled -/
noncomputable def b__law_shuffled : SS := sSeq (sOwn 2 (lDisp (aNil)))
  (sSeq (sFor (iSeq (eVar 1)) (asgN 3)
  (sIns 2 (eCall m__law_draw [] (aCons (eVar 0) (aCons (eOp oAdd (eBi gLen (aCons (ePeek 2) (aNil))) (eC (.int 1))) (aNil)))) (eVar 3)))
  (sFrz 2 (sRet (eVar 2))))
noncomputable def m__law_shuffled : FM := fnM 2 4 b__law_shuffled
theorem sc__law_shuffled : FnScope ["_law_purse_here", "_law_some", "_law_found", "_law_item"] ["_law_purse_here", "_law_some"] (defScope s__law_shuffled) := ⟨rfl, rfl, rfl, by decide +kernel, rfl, by decide +kernel, by decide +kernel⟩
theorem ok__law_shuffled (T : Txt0 P K mg C_Rule) : OkF P w K mg base 3 "_law_shuffled" ["_law_purse_here", "_law_some"] m__law_shuffled := by
  refine okF_mk (nm := ["_law_purse_here", "_law_some", "_law_found", "_law_item"]) T.F__law_shuffled sc__law_shuffled (fun _ _ _ _ _ _ us hl => match us, hl with | [_, _], _ => rfl) (fun f cdv A outer s H E hr => ?_)
  have hr2 : Room 2 _ := hr.mono (by decide)
  exact s_cons (s_own (i := 2) sc__law_shuffled.nd (d_lst (a_nil)))
      (s_cons (s_for PassesOwn.never rfl (i_seq (d_var 1)) (t_name (i := 3) sc__law_shuffled.nd) (gok_name 3)
      (s_one (s_ins (i := 2) (d_peek (c_call (ok__law_draw T) hr2 (a_cons (d_var 0) (a_cons (d_add (d_peek (d_len (T.n_len) (p_cons (d_look 2) (p_nil)))) (d_peek (d_int))) (a_nil))))) (d_var 3))))
      (s_one (s_frz 2 (s_ret (d_var 2)))))
/-! ### _law_names -/
noncomputable def b__law_names : SS := sSeq (sUnp [2, 3] (eTup (aCons (eL (lDisp (aCons (eC (.str "ann")) (aCons (eC (.str "a")) (aCons (eC (.str "ab")) (aCons (eC (.str "b")) (aCons (eC (.str "first")) (aCons (eC (.str "of")) (aCons (eC (.str "end")) (aCons (eC (.str "zzzzzzzz")) (aNil))))))))))) (aCons (eCall m__law_word [] (aCons (eVar 0) (aNil))) (aNil)))))
  (sRet (eL (eSl slL (eCall m__law_shuffled [] (aCons (eVar 0) (aCons (eOp oAdd (ePeek 2) (eL (lComp (iSeq (eL (lDisp (aCons (eVar 3) (aNil))))) (asgN 4) (bOf (eOp (oInL true) (ePeek 4) (ePeek 2))) (eVar 4) [4]))) (aNil)))) (oNone) (oSome (ePeek 1)))))
noncomputable def m__law_names : FM := fnM 2 5 b__law_names
theorem sc__law_names : FnScope ["_law_purse_here", "_law_many_here", "_law_some", "_law_fresh", "_law_word_here"] ["_law_purse_here", "_law_many_here"] (defScope s__law_names) := ⟨rfl, rfl, rfl, by decide +kernel, rfl, by decide +kernel, by decide +kernel⟩
theorem ok__law_names (T : Txt0 P K mg C_Rule) : OkF P w K mg base 4 "_law_names" ["_law_purse_here", "_law_many_here"] m__law_names := by
  refine okF_mk (nm := ["_law_purse_here", "_law_many_here", "_law_some", "_law_fresh", "_law_word_here"]) T.F__law_names sc__law_names (fun _ _ _ _ _ _ us hl => match us, hl with | [_, _], _ => rfl) (fun f cdv A outer s H E hr => ?_)
  have hr3 : Room 3 _ := hr.mono (by decide)
  exact s_cons (s_unp (is := [2, 3]) rfl (d_tup (a_cons (d_give (d_lst (a_cons (d_str) (a_cons (d_str) (a_cons (d_str) (a_cons (d_str) (a_cons (d_str) (a_cons (d_str) (a_cons (d_str) (a_cons (d_str) (a_nil))))))))))) (a_cons (c_call (ok__law_word T) hr3 (a_cons (d_var 0) (a_nil))) (a_nil)))) (g_cons (i := 2) sc__law_names.nd (g_cons (i := 3) sc__law_names.nd (g_nil))))
      (s_one (s_ret (d_give (d_slL (d_peek (c_call (ok__law_shuffled T) hr3 (a_cons (d_var 0) (a_cons (d_add (d_look 2) (d_peek (d_give (d_lc rfl sc__law_names.nd (i_seq (d_give (d_lst (a_cons (d_var 3) (a_nil))))) (blkOk_by (own := [("_law_word_here", 4)]) (by first | (show blkC ["_law_purse_here", "_law_many_here", "_law_some", "_law_fresh", "_law_word_here"] (defScope s__law_names) _ _ = true; decide +kernel) | kernel_rfl | rfl)) (fun _ _ _ _ _ => t_name (i := 4) sc__law_names.nd) (gok_name 4) (by decide) (fun _ _ _ _ _ => pts_oneT (d_testC (d_peek (d_ninL (u65 hr) (d_look 4) (d_look 2))))) (fun _ _ _ _ _ => d_var 4))))) (a_nil))))) (o_none) (o_some (d_look 1))))))
/-! ### _law_small_wait -/
noncomputable def b__law_small_wait : SS := sRet (eOp oSub (eCall m__law_draw [] (aCons (eVar 0) (aCons (eC (.int 4)) (aNil)))) (eCall m__law_draw [] (aCons (eVar 0) (aCons (eC (.int 2)) (aNil)))))
noncomputable def m__law_small_wait : FM := fnM 1 1 b__law_small_wait
theorem sc__law_small_wait : FnScope ["_law_purse_here"] ["_law_purse_here"] (defScope s__law_small_wait) := ⟨rfl, rfl, rfl, by decide +kernel, rfl, by decide +kernel, by decide +kernel⟩
theorem ok__law_small_wait (T : Txt0 P K mg C_Rule) : OkF P w K mg base 3 "_law_small_wait" ["_law_purse_here"] m__law_small_wait := by
  refine okF_mk (nm := ["_law_purse_here"]) T.F__law_small_wait sc__law_small_wait (fun _ _ _ _ _ _ us hl => match us, hl with | [_], _ => rfl) (fun f cdv A outer s H E hr => ?_)
  have hr2 : Room 2 _ := hr.mono (by decide)
  exact s_one (s_ret (d_sub (d_peek (c_call (ok__law_draw T) hr2 (a_cons (d_var 0) (a_cons (d_int) (a_nil))))) (d_peek (c_call (ok__law_draw T) hr2 (a_cons (d_var 0) (a_cons (d_int) (a_nil)))))))
/-! ### _law_one_of -/
noncomputable def b__law_one_of : SS := sRet (eOp oIx (ePeek 1) (eCall m__law_draw [] (aCons (eVar 0) (aCons (eBi gLen (aCons (ePeek 1) (aNil))) (aNil)))))
noncomputable def m__law_one_of : FM := fnM 2 2 b__law_one_of
theorem sc__law_one_of : FnScope ["_law_purse_here", "_law_some"] ["_law_purse_here", "_law_some"] (defScope s__law_one_of) := ⟨rfl, rfl, rfl, by decide +kernel, rfl, by decide +kernel, by decide +kernel⟩
theorem ok__law_one_of (T : Txt0 P K mg C_Rule) : OkF P w K mg base 3 "_law_one_of" ["_law_purse_here", "_law_some"] m__law_one_of := by
  refine okF_mk (nm := ["_law_purse_here", "_law_some"]) T.F__law_one_of sc__law_one_of (fun _ _ _ _ _ _ us hl => match us, hl with | [_, _], _ => rfl) (fun f cdv A outer s H E hr => ?_)
  have hr2 : Room 2 _ := hr.mono (by decide)
  exact s_one (s_ret (d_ix (d_look 1) (d_peek (c_call (ok__law_draw T) hr2 (a_cons (d_var 0) (a_cons (d_len (T.n_len) (p_cons (d_look 1) (p_nil))) (a_nil)))))))
/-! ### _law_wait -/
noncomputable def b__law_wait : SS := sSeq (sSet 1 (eL (lDisp (aCons (eC (.int 0)) (aCons (eC (.int 0)) (aCons (eC (.int 1)) (aCons (eC (.int 2)) (aCons (eC (.int 3)) (aCons (eNeg (eC (.int 1))) (aCons (eNeg (eC (.int 2))) (aCons (eOp oSub (eCall m__law_draw [] (aCons (eVar 0) (aCons (eC (.int 19)) (aNil)))) (eC (.int 9))) (aNil))))))))))))
  (sSeq (sSet 1 (eOp oAdd (ePeek 1) (eL (lDisp (aCons (eOp oSub (eCall m__law_draw [] (aCons (eVar 0) (aCons (eOp oPow (eC (.int 10)) (eC (.int 9))) (aNil)))) (eOp oPow (eC (.int 10)) (eC (.int 8)))) (aCons (eOp oAdd (eOp oPow (eC (.int 10)) (eC (.int 11))) (eCall m__law_draw [] (aCons (eVar 0) (aCons (eC (.int 9)) (aNil))))) (aNil)))))))
  (sRet (eCall m__law_one_of [] (aCons (eVar 0) (aCons (eL (eSl slL (ePeek 1) (oNone) (oSome (eOp oAdd (eC (.int 7)) (eCall m__law_draw [] (aCons (eVar 0) (aCons (eC (.int 4)) (aNil)))))))) (aNil))))))
noncomputable def m__law_wait : FM := fnM 1 2 b__law_wait
theorem sc__law_wait : FnScope ["_law_purse_here", "_law_some"] ["_law_purse_here"] (defScope s__law_wait) := ⟨rfl, rfl, rfl, by decide +kernel, rfl, by decide +kernel, by decide +kernel⟩
theorem ok__law_wait (T : Txt0 P K mg C_Rule) : OkF P w K mg base 4 "_law_wait" ["_law_purse_here"] m__law_wait := by
  refine okF_mk (nm := ["_law_purse_here", "_law_some"]) T.F__law_wait sc__law_wait (fun _ _ _ _ _ _ us hl => match us, hl with | [_], _ => rfl) (fun f cdv A outer s H E hr => ?_)
  have hr2 : Room 2 _ := hr.mono (by decide)
  have hr3 : Room 3 _ := hr.mono (by decide)
  exact s_cons (s_set (i := 1) sc__law_wait.nd (d_give (d_lst (a_cons (d_int) (a_cons (d_int) (a_cons (d_int) (a_cons (d_int) (a_cons (d_int) (a_cons (d_neg (d_peek (d_int))) (a_cons (d_neg (d_peek (d_int))) (a_cons (d_sub (d_peek (c_call (ok__law_draw T) hr2 (a_cons (d_var 0) (a_cons (d_int) (a_nil))))) (d_peek (d_int))) (a_nil))))))))))))
      (s_cons (s_set (i := 1) sc__law_wait.nd (d_add (d_look 1) (d_peek (d_give (d_lst (a_cons (d_sub (d_peek (c_call (ok__law_draw T) hr2 (a_cons (d_var 0) (a_cons (d_pow (d_peek (d_int)) (d_peek (d_int))) (a_nil))))) (d_peek (d_pow (d_peek (d_int)) (d_peek (d_int))))) (a_cons (d_add (d_peek (d_pow (d_peek (d_int)) (d_peek (d_int)))) (d_peek (c_call (ok__law_draw T) hr2 (a_cons (d_var 0) (a_cons (d_int) (a_nil)))))) (a_nil))))))))
      (s_one (s_ret (c_call (ok__law_one_of T) hr3 (a_cons (d_var 0) (a_cons (d_give (d_slL (d_look 1) (o_none) (o_some (d_peek (d_add (d_peek (d_int)) (d_peek (c_call (ok__law_draw T) hr2 (a_cons (d_var 0) (a_cons (d_int) (a_nil)))))))))) (a_nil)))))))
/-! ### _law_part -/
noncomputable def b__law_part : SS := sSeq (sSet 4 (eIf (bOf (ePeek 3)) (eCall m__law_small_wait [] (aCons (eVar 0) (aNil))) (eCall m__law_wait [] (aCons (eVar 0) (aNil)))))
  (sSeq (sIf (bAnd (bOf (eOp oNe (ePeek 2) (eL (lDisp (aNil))))) (bOf (eOp oEq (eCall m__law_draw [] (aCons (eVar 0) (aCons (eC (.int 3)) (aNil)))) (eC (.int 0)))))
  (sRet (eTup (aCons (eC (.str "now")) (aCons (eCall m__law_one_of [] (aCons (eVar 0) (aCons (eVar 2) (aNil)))) (aCons (eVar 4) (aNil))))))
  (sNil))
  (sRet (eTup (aCons (eC (.str "of")) (aCons (eCall m__law_one_of [] (aCons (eVar 0) (aCons (eVar 1) (aNil)))) (aCons (eVar 4) (aNil)))))))
noncomputable def m__law_part : FM := fnM 4 5 b__law_part
theorem sc__law_part : FnScope ["_law_purse_here", "_law_names_here", "_law_hung", "_law_is_small", "_law_wait_here"] ["_law_purse_here", "_law_names_here", "_law_hung", "_law_is_small"] (defScope s__law_part) := ⟨rfl, rfl, rfl, by decide +kernel, rfl, by decide +kernel, by decide +kernel⟩
theorem ok__law_part (T : Txt0 P K mg C_Rule) : OkF P w K mg base 5 "_law_part" ["_law_purse_here", "_law_names_here", "_law_hung", "_law_is_small"] m__law_part := by
  refine okF_mk (nm := ["_law_purse_here", "_law_names_here", "_law_hung", "_law_is_small", "_law_wait_here"]) T.F__law_part sc__law_part (fun _ _ _ _ _ _ us hl => match us, hl with | [_, _, _, _], _ => rfl) (fun f cdv A outer s H E hr => ?_)
  have hr2 : Room 2 _ := hr.mono (by decide)
  have hr3 : Room 3 _ := hr.mono (by decide)
  have hr4 : Room 4 _ := hr.mono (by decide)
  exact s_cons (s_set (i := 4) sc__law_part.nd (d_if (d_test (d_look 3)) (c_call (ok__law_small_wait T) hr3 (a_cons (d_var 0) (a_nil))) (c_call (ok__law_wait T) hr4 (a_cons (d_var 0) (a_nil)))))
      (s_cons (s_if (w_pt (w_and (d_testC (d_peek (d_ne hr.units (d_look 2) (d_peek (d_give (d_lst (a_nil))))))) (w_and1 (d_testC (d_peek (d_eq hr.units (d_peek (c_call (ok__law_draw T) hr2 (a_cons (d_var 0) (a_cons (d_int) (a_nil))))) (d_peek (d_int))))))))
      (s_one (s_ret (d_tup (a_cons (d_str) (a_cons (c_call (ok__law_one_of T) hr3 (a_cons (d_var 0) (a_cons (d_var 2) (a_nil)))) (a_cons (d_var 4) (a_nil)))))))
      (s_nil))
      (s_one (s_ret (d_tup (a_cons (d_str) (a_cons (c_call (ok__law_one_of T) hr3 (a_cons (d_var 0) (a_cons (d_var 1) (a_nil)))) (a_cons (d_var 4) (a_nil))))))))
/-! ### _law_term (recursion) -/
noncomputable def b__law_term (r__law_term : FM) : SS := sSeq (sIf (bOf (eOp oLt (ePeek 3) (eC (.int 2))))
  (sRet (eCall m__law_part [] (aCons (eVar 0) (aCons (eVar 1) (aCons (eVar 2) (aCons (eVar 4) (aNil)))))))
  (sNil))
  (sSeq (sPar 5 6 (.val (eCall m__law_one_of [] (aCons (eVar 0) (aCons (eL (lDisp (aCons (eC (.str "first")) (aCons (eC (.str "last")) (aCons (eC (.str "rank")) (aNil)))))) (aNil))))) (.val (eCall m__law_draw [] (aCons (eVar 0) (aCons (eC (.int 9)) (aNil))))))
  (sSeq (sSet 7 (eIf (bOf (eOp oEq (ePeek 6) (eC (.int 0)))) (eVar 3) (eIf (bOf (eOp oEq (ePeek 6) (eC (.int 1)))) (eC (.int 1)) (eOp oAdd (eC (.int 2)) (eCall m__law_draw [] (aCons (eVar 0) (aCons (eBi gMin (aCons (eC (.int 3)) (aCons (eOp oSub (ePeek 3) (eC (.int 1))) (aNil)))) (aNil))))))))
  (sSeq (sOwn 8 (lComp (iRg1 (aCons (ePeek 7) (aNil))) (asgN 9) (bYes) (eC (.int 1)) [9]))
  (sSeq (sFor (iRg1 (aCons (eOp oSub (ePeek 3) (eBi gMax (aCons (ePeek 7) (aCons (eC (.int 2)) (aNil))))) (aNil))) (asgN 9)
  (sSeq (sSet 10 (eCall m__law_draw [] (aCons (eVar 0) (aCons (eVar 7) (aNil)))))
  (sPut 8 (ePeek 10) (eOp oAdd (eOp oIx (ePeek 8) (ePeek 10)) (eC (.int 1))))))
  (sSeq (sFrz 8 (sSet 11 (eL (lComp (iSeq (eVar 8)) (asgN 12) (bYes) (eCall r__law_term [] (aCons (eVar 0) (aCons (eVar 1) (aCons (eVar 2) (aCons (eVar 12) (aCons (eVar 4) (aNil))))))) [12]))))
  (sRet (eIf (bOf (eOp oNe (ePeek 5) (eC (.str "rank")))) (eTup (aCons (eVar 5) (aCons (eVar 11) (aNil)))) (eTup (aCons (eVar 5) (aCons (eOp oAdd (eC (.int 1)) (eCall m__law_draw [] (aCons (eVar 0) (aCons (eVar 7) (aNil))))) (aCons (eVar 11) (aNil))))))))))))
noncomputable def st__law_term (p : FM) : FM := (fnM 5 13 (b__law_term (p)))
noncomputable def mm__law_term : Nat → FM
  | 0 => (fun _ _ => none)
  | n + 1 => st__law_term (mm__law_term n)
noncomputable abbrev mr__law_term (n : Nat) : FM := (mm__law_term n)
noncomputable abbrev m__law_term : FM := mr__law_term 10
theorem sr__law_term (n : Nat) : mr__law_term (n + 1) = fnM 5 13 (b__law_term (mr__law_term n)) := rfl
theorem sc__law_term : FnScope ["_law_purse_here", "_law_names_here", "_law_hung", "_law_many_here", "_law_is_small", "_law_word_here", "_law_way", "_law_count", "_law_sizes", "_law_turn", "_law_at", "_law_inner", "_law_size"] ["_law_purse_here", "_law_names_here", "_law_hung", "_law_many_here", "_law_is_small"] (defScope s__law_term) := ⟨rfl, rfl, rfl, by decide +kernel, rfl, by decide +kernel, by decide +kernel⟩
theorem okr__law_term (T : Txt0 P K mg C_Rule) : ∀ n : Nat, OkF P w K mg base (6 + n) "_law_term" ["_law_purse_here", "_law_names_here", "_law_hung", "_law_many_here", "_law_is_small"] (mr__law_term n)
  | 0 => okF_0 T.F__law_term (fun _ _ _ _ _ _ us hl => match us, hl with | [_, _, _, _, _], _ => rfl)
  | n + 1 => by
    have ih__law_term := okr__law_term T n
    refine okF_mk (k := 6 + n) (nm := ["_law_purse_here", "_law_names_here", "_law_hung", "_law_many_here", "_law_is_small", "_law_word_here", "_law_way", "_law_count", "_law_sizes", "_law_turn", "_law_at", "_law_inner", "_law_size"]) T.F__law_term sc__law_term (fun _ _ _ _ _ _ us hl => match us, hl with | [_, _, _, _, _], _ => rfl) (fun f cdv A outer s H E hr => ?_)
    have hr2 : Room 2 _ := hr.mono (by omega)
    have hr3 : Room 3 _ := hr.mono (by omega)
    have hr5 : Room 5 _ := hr.mono (by omega)
    exact s_cons (s_if (d_testC (d_peek (d_lt (d_look 3) (d_peek (d_int)))))
            (s_one (s_ret (c_call (ok__law_part T) hr5 (a_cons (d_var 0) (a_cons (d_var 1) (a_cons (d_var 2) (a_cons (d_var 4) (a_nil))))))))
            (s_nil))
            (s_cons (s_par (i := 5) (j := 6) (ka := .val (eCall m__law_one_of [] (aCons (eVar 0) (aCons (eL (lDisp (aCons (eC (.str "first")) (aCons (eC (.str "last")) (aCons (eC (.str "rank")) (aNil)))))) (aNil))))) (kb := .val (eCall m__law_draw [] (aCons (eVar 0) (aCons (eC (.int 9)) (aNil))))) sc__law_term.nd (k_val (c_call (ok__law_one_of T) hr3 (a_cons (d_var 0) (a_cons (d_give (d_lst (a_cons (d_str) (a_cons (d_str) (a_cons (d_str) (a_nil)))))) (a_nil))))) (k_val (c_call (ok__law_draw T) hr2 (a_cons (d_var 0) (a_cons (d_int) (a_nil))))))
            (s_cons (s_set (i := 7) sc__law_term.nd (d_if (d_testC (d_peek (d_eq hr.units (d_look 6) (d_peek (d_int))))) (d_var 3) (d_if (d_testC (d_peek (d_eq hr.units (d_look 6) (d_peek (d_int))))) (d_int) (d_add (d_peek (d_int)) (d_peek (c_call (ok__law_draw T) hr2 (a_cons (d_var 0) (a_cons (d_min rfl (T.n_min) (p_cons (d_peek (d_int)) (p_cons (d_peek (d_sub (d_look 3) (d_peek (d_int)))) (p_nil)))) (a_nil)))))))))
            (s_cons (s_lcOwn (i := 8) rfl sc__law_term.nd rfl rfl (sw_true rfl rfl rfl (by decide +kernel)) (i_rg1 (T.n_range) (p_cons (d_look 7) (p_nil))) (blkOk_by (own := [("_law_turn", 9)]) (by first | (show blkC ["_law_purse_here", "_law_names_here", "_law_hung", "_law_many_here", "_law_is_small", "_law_word_here", "_law_way", "_law_count", "_law_sizes", "_law_turn", "_law_at", "_law_inner", "_law_size"] (defScope s__law_term) _ _ = true; decide +kernel) | kernel_rfl | rfl)) (fun _ _ _ _ _ => t_name (i := 9) sc__law_term.nd) (gok_name 9) (by decide) (fun _ _ _ _ _ => pts_nilT) (fun _ _ _ _ _ => d_int))
            (s_cons (s_for PassesOwn.never rfl (i_rg1 (T.n_range) (p_cons (d_peek (d_sub (d_look 3) (d_peek (d_max rfl (T.n_max) (p_cons (d_look 7) (p_cons (d_peek (d_int)) (p_nil))))))) (p_nil))) (t_name (i := 9) sc__law_term.nd) (gok_name 9)
            (s_cons (s_set (i := 10) sc__law_term.nd (c_call (ok__law_draw T) hr2 (a_cons (d_var 0) (a_cons (d_var 7) (a_nil)))))
            (s_one (s_put (i := 8) (d_add (d_peek (d_ix (d_look 8) (d_look 10))) (d_peek (d_int))) (d_look 10)))))
            (s_cons (s_frz 8 (s_lc (i := 11) rfl sc__law_term.nd rfl rfl (sw_true rfl rfl rfl (by decide +kernel)) (i_seq (d_var 8)) (blkOk_by (own := [("_law_size", 12)]) (by first | (show blkC ["_law_purse_here", "_law_names_here", "_law_hung", "_law_many_here", "_law_is_small", "_law_word_here", "_law_way", "_law_count", "_law_sizes", "_law_turn", "_law_at", "_law_inner", "_law_size"] (defScope s__law_term) _ _ = true; decide +kernel) | kernel_rfl | rfl)) (fun _ _ _ _ _ => t_name (i := 12) sc__law_term.nd) (gok_name 12) (by decide) (fun _ _ _ _ _ => pts_nilT) (fun _ _ _ _ _ => c_call ih__law_term hr (a_cons (d_var 0) (a_cons (d_var 1) (a_cons (d_var 2) (a_cons (d_var 12) (a_cons (d_var 4) (a_nil)))))))))
            (s_one (s_ret (d_if (d_testC (d_peek (d_ne hr.units (d_look 5) (d_peek (d_str))))) (d_tup (a_cons (d_var 5) (a_cons (d_var 11) (a_nil)))) (d_tup (a_cons (d_var 5) (a_cons (d_add (d_peek (d_int)) (d_peek (c_call (ok__law_draw T) hr2 (a_cons (d_var 0) (a_cons (d_var 7) (a_nil)))))) (a_cons (d_var 11) (a_nil)))))))))))))
theorem ok__law_term (T : Txt0 P K mg C_Rule) : OkF P w K mg base 16 "_law_term" ["_law_purse_here", "_law_names_here", "_law_hung", "_law_many_here", "_law_is_small"] m__law_term := (okr__law_term T 10)
/-! ### _law_again (recursion) -/
noncomputable def b__law_again (r__law_again : FM) : SS := sSeq (sIf (bOf (eOp (oInT false) (eOp oIx (ePeek 0) (eC (.int 0))) (eTup (aCons (eC (.str "of")) (aCons (eC (.str "now")) (aNil))))))
  (sRet (eVar 0))
  (sNil))
  (sRet (eOp oAdd (eSl slT (ePeek 0) (oNone) (oSome (eNeg (eC (.int 1))))) (eTup (aCons (eCel (lComp (iSeq (eOp oIx (ePeek 0) (eNeg (eC (.int 1))))) (asgN 1) (bYes) (eCall r__law_again [] (aCons (eVar 1) (aNil))) [1])) (aNil)))))
noncomputable def st__law_again (p : FM) : FM := (fnM 1 2 (b__law_again (p)))
noncomputable def mm__law_again : Nat → FM
  | 0 => (fun _ _ => none)
  | n + 1 => st__law_again (mm__law_again n)
noncomputable abbrev mr__law_again (n : Nat) : FM := (mm__law_again n)
noncomputable abbrev m__law_again : FM := mr__law_again 11
theorem sr__law_again (n : Nat) : mr__law_again (n + 1) = fnM 1 2 (b__law_again (mr__law_again n)) := rfl
theorem sc__law_again : FnScope ["_law_term_here", "_law_one"] ["_law_term_here"] (defScope s__law_again) := ⟨rfl, rfl, rfl, by decide +kernel, rfl, by decide +kernel, by decide +kernel⟩
theorem okr__law_again (T : Txt0 P K mg C_Rule) : ∀ n : Nat, OkF P w K mg base (1 + n) "_law_again" ["_law_term_here"] (mr__law_again n)
  | 0 => okF_0 T.F__law_again (fun _ _ _ _ _ _ us hl => match us, hl with | [_], _ => rfl)
  | n + 1 => by
    have ih__law_again := okr__law_again T n
    refine okF_mk (k := 1 + n) (nm := ["_law_term_here", "_law_one"]) T.F__law_again sc__law_again (fun _ _ _ _ _ _ us hl => match us, hl with | [_], _ => rfl) (fun f cdv A outer s H E hr => ?_)
    exact s_cons (s_if (d_testC (d_peek (d_inT (d_peek (d_ix (d_look 0) (d_peek (d_int)))) (d_peek (d_tup (a_cons (d_str) (a_cons (d_str) (a_nil))))))))
            (s_one (s_ret (d_var 0)))
            (s_nil))
            (s_one (s_ret (d_add (d_peek (d_slT (d_look 0) (o_none) (o_some (d_peek (d_neg (d_peek (d_int))))))) (d_peek (d_tup (a_cons (d_cell (d_lc rfl sc__law_again.nd (i_seq (d_ix (d_look 0) (d_peek (d_neg (d_peek (d_int)))))) (blkOk_by (own := [("_law_one", 1)]) (by first | (show blkC ["_law_term_here", "_law_one"] (defScope s__law_again) _ _ = true; decide +kernel) | kernel_rfl | rfl)) (fun _ _ _ _ _ => t_name (i := 1) sc__law_again.nd) (gok_name 1) (by decide) (fun _ _ _ _ _ => pts_nilT) (fun _ _ _ _ _ => c_call ih__law_again hr (a_cons (d_var 1) (a_nil))))) (a_nil)))))))
theorem ok__law_again (T : Txt0 P K mg C_Rule) : OkF P w K mg base 12 "_law_again" ["_law_term_here"] m__law_again := (okr__law_again T 11)
/-! ### is_whole -/
noncomputable def b_is_whole : SS := sRet (eAnd (eBi (gIsi CS) (aCons (ePeek 0) (aCons (eC (.ty "int")) (aNil)))) (eNot (eBi (gIsi CS) (aCons (ePeek 0) (aCons (eC (.ty "bool")) (aNil))))))
noncomputable def m_is_whole : FM := fnM 1 1 b_is_whole
theorem sc_is_whole : FnScope ["value"] ["value"] (defScope s_is_whole) := ⟨rfl, rfl, rfl, by decide +kernel, rfl, by decide +kernel, by decide +kernel⟩
theorem ok_is_whole (T : Txt0 P K mg C_Rule) : OkF P w K mg base 1 "is_whole" ["value"] m_is_whole := by
  refine okF_mk (nm := ["value"]) T.F_is_whole sc_is_whole (fun _ _ _ _ _ _ us hl => match us, hl with | [_], _ => rfl) (fun f cdv A outer s H E hr => ?_)
  exact s_one (s_ret (v_and (d_peek (d_isi T.isi (T.n_isinstance) (p_cons (d_look 0) (p_cons (d_peek (d_ty (by rfl) (T.n_int) (by rfl))) (p_nil))))) (v_one (v_not (d_peek (d_isi T.isi (T.n_isinstance) (p_cons (d_look 0) (p_cons (d_peek (d_ty (by rfl) (T.n_bool) (by rfl))) (p_nil)))))))))
/-! ### is_name -/
noncomputable def b_is_name : SS := sSeq (sIf (bOr (bNot (bOf (eBi (gIsi CS) (aCons (ePeek 0) (aCons (eC (.ty "str")) (aNil)))))) (bOr (bOf (eOp oLt (eBi gLen (aCons (ePeek 0) (aNil))) (eC (.int 1)))) (bOf (eOp oGt (eBi gLen (aCons (ePeek 0) (aNil))) (eC (.int 8))))))
  (sRet (eC (.bl false)))
  (sNil))
  (sRet (eOp oEq (eL (lComp (iSgn (ePeek 0)) (asgN 1) (bOf (eOp (oInS true) (ePeek 1) (eC (.str "abcdefghijklmnopqrstuvwxyz")))) (eVar 1) [1])) (eL (lDisp (aNil)))))
noncomputable def m_is_name : FM := fnM 1 2 b_is_name
theorem sc_is_name : FnScope ["value", "sign"] ["value"] (defScope s_is_name) := ⟨rfl, rfl, rfl, by decide +kernel, rfl, by decide +kernel, by decide +kernel⟩
theorem ok_is_name (T : Txt0 P K mg C_Rule) : OkF P w K mg base 1 "is_name" ["value"] m_is_name := by
  refine okF_mk (nm := ["value", "sign"]) T.F_is_name sc_is_name (fun _ _ _ _ _ _ us hl => match us, hl with | [_], _ => rfl) (fun f cdv A outer s H E hr => ?_)
  exact s_cons (s_if (w_pt (w_or (d_not (d_test (d_peek (d_isi T.isi (T.n_isinstance) (p_cons (d_look 0) (p_cons (d_peek (d_ty (by rfl) (T.n_str) (by rfl))) (p_nil))))))) (w_or (d_testC (d_peek (d_lt (d_peek (d_len (T.n_len) (p_cons (d_look 0) (p_nil)))) (d_peek (d_int))))) (w_or1 (d_testC (d_peek (d_gt (d_peek (d_len (T.n_len) (p_cons (d_look 0) (p_nil)))) (d_peek (d_int)))))))))
      (s_one (s_ret (d_bl)))
      (s_nil))
      (s_one (s_ret (d_eq hr.units (d_peek (d_give (d_lc rfl sc_is_name.nd (i_str (d_look 0)) (blkOk_by (own := [("sign", 1)]) (by first | (show blkC ["value", "sign"] (defScope s_is_name) _ _ = true; decide +kernel) | kernel_rfl | rfl)) (fun _ _ _ _ _ => t_name (i := 1) sc_is_name.nd) (gok_name 1) (by decide) (fun _ _ _ _ _ => pts_oneT (d_testC (d_peek (d_ninS (d_look 1) (d_peek (d_gstr T.g_LETTERS)))))) (fun _ _ _ _ _ => d_var 1)))) (d_peek (d_give (d_lst (a_nil)))))))
/-! ### is_term, are_terms (recursion) -/
noncomputable def b_is_term (r_is_term r_are_terms : FM) : SS := sSeq (sIf (bOr (bNot (bOf (eBi (gIsi CS) (aCons (ePeek 0) (aCons (eC (.ty "tuple")) (aNil)))))) (bOr (bOf (eOp oLt (eBi gLen (aCons (ePeek 0) (aNil))) (eC (.int 2)))) (bNot (bOf (eBi (gIsi CS) (aCons (eOp oIx (ePeek 0) (eC (.int 0))) (aCons (eC (.ty "str")) (aNil))))))))
  (sRet (eC (.bl false)))
  (sNil))
  (sSeq (sIf (bOf (eOp (oInT false) (eOp oIx (ePeek 0) (eC (.int 0))) (eTup (aCons (eC (.str "of")) (aCons (eC (.str "now")) (aNil))))))
  (sRet (eAnd (eOp oEq (eBi gLen (aCons (ePeek 0) (aNil))) (eC (.int 3))) (eAnd (eCall m_is_name [] (aCons (eOp oIx (ePeek 0) (eC (.int 1))) (aNil))) (eCall m_is_whole [] (aCons (eOp oIx (ePeek 0) (eC (.int 2))) (aNil))))))
  (sNil))
  (sSeq (sIf (bOf (eOp (oInT false) (eOp oIx (ePeek 0) (eC (.int 0))) (eTup (aCons (eC (.str "first")) (aCons (eC (.str "last")) (aNil))))))
  (sRet (eAnd (eOp oEq (eBi gLen (aCons (ePeek 0) (aNil))) (eC (.int 2))) (eCall r_are_terms [] (aCons (eOp oIx (ePeek 0) (eC (.int 1))) (aNil)))))
  (sNil))
  (sSeq (sIf (bOr (bOf (eOp oNe (eOp oIx (ePeek 0) (eC (.int 0))) (eC (.str "rank")))) (bOr (bOf (eOp oNe (eBi gLen (aCons (ePeek 0) (aNil))) (eC (.int 3)))) (bOr (bNot (bOf (eCall m_is_whole [] (aCons (eOp oIx (ePeek 0) (eC (.int 1))) (aNil))))) (bNot (bOf (eCall r_are_terms [] (aCons (eOp oIx (ePeek 0) (eC (.int 2))) (aNil))))))))
  (sRet (eC (.bl false)))
  (sNil))
  (sRet (eChn (fun i j => decide (i ≤ j)) (fun i j => decide (i ≤ j)) (eC (.int 1)) (eOp oIx (ePeek 0) (eC (.int 1))) (eBi gLen (aCons (eOp oIx (ePeek 0) (eC (.int 2))) (aNil))))))))
noncomputable def b_are_terms (r_is_term r_are_terms : FM) : SS := sSeq (sIf (bOr (bNot (bOf (eBi (gIsi CS) (aCons (ePeek 0) (aCons (eC (.ty "list")) (aNil)))))) (bOf (eOp oEqN (ePeek 0) (eL (lDisp (aNil))))))
  (sRet (eC (.bl false)))
  (sNil))
  (sRet (eOp oEqN (eL (lComp (iSeqW (eVar 0)) (asgN 1) (bNot (bOf (eCall r_is_term [] (aCons (eVar 1) (aNil))))) (eVar 1) [1])) (eL (lDisp (aNil)))))
noncomputable def st_is_term_are_terms (p : FM × FM) : FM × FM := (fnM 1 1 (b_is_term (p.1) (p.2)), fnM 1 2 (b_are_terms (p.1) (p.2)))
noncomputable def mm_is_term_are_terms : Nat → FM × FM
  | 0 => (fun _ _ => none, fun _ _ => none)
  | n + 1 => st_is_term_are_terms (mm_is_term_are_terms n)
noncomputable abbrev mr_is_term (n : Nat) : FM := (mm_is_term_are_terms n).1
noncomputable abbrev m_is_term : FM := mr_is_term 22
noncomputable abbrev mr_are_terms (n : Nat) : FM := (mm_is_term_are_terms n).2
noncomputable abbrev m_are_terms : FM := mr_are_terms 22
theorem sr_is_term (n : Nat) : mr_is_term (n + 1) = fnM 1 1 (b_is_term (mr_is_term n) (mr_are_terms n)) := rfl
theorem sr_are_terms (n : Nat) : mr_are_terms (n + 1) = fnM 1 2 (b_are_terms (mr_is_term n) (mr_are_terms n)) := rfl
theorem sc_is_term : FnScope ["value"] ["value"] (defScope s_is_term) := ⟨rfl, rfl, rfl, by decide +kernel, rfl, by decide +kernel, by decide +kernel⟩
theorem sc_are_terms : FnScope ["value", "one"] ["value"] (defScope s_are_terms) := ⟨rfl, rfl, rfl, by decide +kernel, rfl, by decide +kernel, by decide +kernel⟩
theorem okr_is_term_are_terms (T : Txt0 P K mg C_Rule) : ∀ n : Nat, OkF P w K mg base (2 + n) "is_term" ["value"] (mr_is_term n) ∧ OkF P w K mg base (2 + n) "are_terms" ["value"] (mr_are_terms n)
  | 0 => ⟨okF_0 T.F_is_term (fun _ _ _ _ _ _ us hl => match us, hl with | [_], _ => rfl), okF_0 T.F_are_terms (fun _ _ _ _ _ _ us hl => match us, hl with | [_], _ => rfl)⟩
  | n + 1 => by
    obtain ⟨ih_is_term, ih_are_terms⟩ := okr_is_term_are_terms T n
    refine ⟨?_, ?_⟩
    · refine okF_mk (k := 2 + n) (nm := ["value"]) T.F_is_term sc_is_term (fun _ _ _ _ _ _ us hl => match us, hl with | [_], _ => rfl) (fun f cdv A outer s H E hr => ?_)
      have hr1 : Room 1 _ := hr.mono (by omega)
      exact s_cons (s_if (w_pt (w_or (d_not (d_test (d_peek (d_isi T.isi (T.n_isinstance) (p_cons (d_look 0) (p_cons (d_peek (d_ty (by rfl) (T.n_tuple) (by rfl))) (p_nil))))))) (w_or (d_testC (d_peek (d_lt (d_peek (d_len (T.n_len) (p_cons (d_look 0) (p_nil)))) (d_peek (d_int))))) (w_or1 (d_not (d_test (d_peek (d_isi T.isi (T.n_isinstance) (p_cons (d_peek (d_ix (d_look 0) (d_peek (d_int)))) (p_cons (d_peek (d_ty (by rfl) (T.n_str) (by rfl))) (p_nil)))))))))))
            (s_one (s_ret (d_bl)))
            (s_nil))
            (s_cons (s_if (d_testC (d_peek (d_inT (d_peek (d_ix (d_look 0) (d_peek (d_int)))) (d_peek (d_tup (a_cons (d_str) (a_cons (d_str) (a_nil))))))))
            (s_one (s_ret (v_and (d_peek (d_eq hr.units (d_peek (d_len (T.n_len) (p_cons (d_look 0) (p_nil)))) (d_peek (d_int)))) (v_and (d_peek (c_call (ok_is_name T) hr1 (a_cons (d_ix (d_look 0) (d_peek (d_int))) (a_nil)))) (v_one (c_call (ok_is_whole T) hr1 (a_cons (d_ix (d_look 0) (d_peek (d_int))) (a_nil))))))))
            (s_nil))
            (s_cons (s_if (d_testC (d_peek (d_inT (d_peek (d_ix (d_look 0) (d_peek (d_int)))) (d_peek (d_tup (a_cons (d_str) (a_cons (d_str) (a_nil))))))))
            (s_one (s_ret (v_and (d_peek (d_eq hr.units (d_peek (d_len (T.n_len) (p_cons (d_look 0) (p_nil)))) (d_peek (d_int)))) (v_one (c_call ih_are_terms hr (a_cons (d_ix (d_look 0) (d_peek (d_int))) (a_nil)))))))
            (s_nil))
            (s_cons (s_if (w_pt (w_or (d_testC (d_peek (d_ne hr.units (d_peek (d_ix (d_look 0) (d_peek (d_int)))) (d_peek (d_str))))) (w_or (d_testC (d_peek (d_ne hr.units (d_peek (d_len (T.n_len) (p_cons (d_look 0) (p_nil)))) (d_peek (d_int))))) (w_or (d_not (d_test (d_peek (c_call (ok_is_whole T) hr1 (a_cons (d_ix (d_look 0) (d_peek (d_int))) (a_nil)))))) (w_or1 (d_not (d_test (d_peek (c_call ih_are_terms hr (a_cons (d_ix (d_look 0) (d_peek (d_int))) (a_nil)))))))))))
            (s_one (s_ret (d_bl)))
            (s_nil))
            (s_one (s_ret (d_chn op_le op_le (d_peek (d_int)) (d_peek (d_ix (d_look 0) (d_peek (d_int)))) (d_peek (d_len (T.n_len) (p_cons (d_peek (d_ix (d_look 0) (d_peek (d_int)))) (p_nil))))))))))
    · refine okF_mk (k := 2 + n) (nm := ["value", "one"]) T.F_are_terms sc_are_terms (fun _ _ _ _ _ _ us hl => match us, hl with | [_], _ => rfl) (fun f cdv A outer s H E hr => ?_)
      exact s_cons (s_if (w_pt (w_or (d_not (d_test (d_peek (d_isi T.isi (T.n_isinstance) (p_cons (d_look 0) (p_cons (d_peek (d_ty (by rfl) (T.n_list) (by rfl))) (p_nil))))))) (w_or1 (d_testC (d_peek (d_eqN (u0 hr) (d_look 0) (d_peek (d_give (d_lst (a_nil))))))))))
            (s_one (s_ret (d_bl)))
            (s_nil))
            (s_one (s_ret (d_eqN (u0 hr) (d_peek (d_give (d_lc rfl sc_are_terms.nd (i_seqW (d_var 0)) (blkOk_by (own := [("one", 1)]) (by first | (show blkC ["value", "one"] (defScope s_are_terms) _ _ = true; decide +kernel) | kernel_rfl | rfl)) (fun _ _ _ _ _ => t_name (i := 1) sc_are_terms.nd) (gok_name 1) (by decide) (fun _ _ _ _ _ => pts_oneT (d_not (d_test (d_peek (c_call ih_is_term hr (a_cons (d_var 1) (a_nil))))))) (fun _ _ _ _ _ => d_var 1)))) (d_peek (d_give (d_lst (a_nil)))))))
theorem ok_is_term (T : Txt0 P K mg C_Rule) : OkF P w K mg base 24 "is_term" ["value"] m_is_term := (okr_is_term_are_terms T 22).1
theorem ok_are_terms (T : Txt0 P K mg C_Rule) : OkF P w K mg base 24 "are_terms" ["value"] m_are_terms := (okr_is_term_are_terms T 22).2

/-! ### is_part -/
noncomputable def b_is_part : SS := sRet (eOp (oInT false) (eOp oIx (ePeek 0) (eC (.int 0))) (eTup (aCons (eC (.str "of")) (aCons (eC (.str "now")) (aNil)))))
noncomputable def m_is_part : FM := fnM 1 1 b_is_part
theorem sc_is_part : FnScope ["term"] ["term"] (defScope s_is_part) := ⟨rfl, rfl, rfl, by decide +kernel, rfl, by decide +kernel, by decide +kernel⟩
theorem ok_is_part (T : Txt0 P K mg C_Rule) : OkF P w K mg base 1 "is_part" ["term"] m_is_part := by
  refine okF_mk (nm := ["term"]) T.F_is_part sc_is_part (fun _ _ _ _ _ _ us hl => match us, hl with | [_], _ => rfl) (fun f cdv A outer s H E hr => ?_)
  exact s_one (s_ret (d_inT (d_peek (d_ix (d_look 0) (d_peek (d_int)))) (d_peek (d_tup (a_cons (d_str) (a_cons (d_str) (a_nil)))))))
/-! ### with_inside -/
noncomputable def b_with_inside : SS := sRet (eOp oAdd (eSl slT (ePeek 0) (oNone) (oSome (eNeg (eC (.int 1))))) (eTup (aCons (eVar 1) (aNil))))
noncomputable def m_with_inside : FM := fnM 2 2 b_with_inside
theorem sc_with_inside : FnScope ["term", "inner"] ["term", "inner"] (defScope s_with_inside) := ⟨rfl, rfl, rfl, by decide +kernel, rfl, by decide +kernel, by decide +kernel⟩
theorem ok_with_inside (T : Txt0 P K mg C_Rule) : OkF P w K mg base 1 "with_inside" ["term", "inner"] m_with_inside := by
  refine okF_mk (nm := ["term", "inner"]) T.F_with_inside sc_with_inside (fun _ _ _ _ _ _ us hl => match us, hl with | [_, _], _ => rfl) (fun f cdv A outer s H E hr => ?_)
  exact s_one (s_ret (d_add (d_peek (d_slT (d_look 0) (o_none) (o_some (d_peek (d_neg (d_peek (d_int))))))) (d_peek (d_tup (a_cons (d_var 1) (a_nil))))))
/-! ### copied (recursion) -/
noncomputable def b_copied (r_copied : FM) : SS := sRet (eIf (bOf (eCall m_is_part [] (aCons (eVar 0) (aNil)))) (eVar 0) (eCall m_with_inside [] (aCons (eVar 0) (aCons (eL (lComp (iSeqW (eOp oIx (ePeek 0) (eNeg (eC (.int 1))))) (asgN 1) (bYes) (eCall r_copied [] (aCons (eVar 1) (aNil))) [1])) (aNil)))))
noncomputable def st_copied (p : FM) : FM := (fnM 1 2 (b_copied (p)))
noncomputable def mm_copied : Nat → FM
  | 0 => (fun _ _ => none)
  | n + 1 => st_copied (mm_copied n)
noncomputable abbrev mr_copied (n : Nat) : FM := (mm_copied n)
noncomputable abbrev m_copied : FM := mr_copied 11
theorem sr_copied (n : Nat) : mr_copied (n + 1) = fnM 1 2 (b_copied (mr_copied n)) := rfl
theorem sc_copied : FnScope ["term", "one"] ["term"] (defScope s_copied) := ⟨rfl, rfl, rfl, by decide +kernel, rfl, by decide +kernel, by decide +kernel⟩
theorem okr_copied (T : Txt0 P K mg C_Rule) : ∀ n : Nat, OkF P w K mg base (2 + n) "copied" ["term"] (mr_copied n)
  | 0 => okF_0 T.F_copied (fun _ _ _ _ _ _ us hl => match us, hl with | [_], _ => rfl)
  | n + 1 => by
    have ih_copied := okr_copied T n
    refine okF_mk (k := 2 + n) (nm := ["term", "one"]) T.F_copied sc_copied (fun _ _ _ _ _ _ us hl => match us, hl with | [_], _ => rfl) (fun f cdv A outer s H E hr => ?_)
    have hr1 : Room 1 _ := hr.mono (by omega)
    exact s_one (s_ret (d_if (d_test (d_peek (c_call (ok_is_part T) hr1 (a_cons (d_var 0) (a_nil))))) (d_var 0) (c_call (ok_with_inside T) hr1 (a_cons (d_var 0) (a_cons (d_give (d_lc rfl sc_copied.nd (i_seqW (d_ix (d_look 0) (d_peek (d_neg (d_peek (d_int)))))) (blkOk_by (own := [("one", 1)]) (by first | (show blkC ["term", "one"] (defScope s_copied) _ _ = true; decide +kernel) | kernel_rfl | rfl)) (fun _ _ _ _ _ => t_name (i := 1) sc_copied.nd) (gok_name 1) (by decide) (fun _ _ _ _ _ => pts_nilT) (fun _ _ _ _ _ => c_call ih_copied hr (a_cons (d_var 1) (a_nil))))) (a_nil))))))
theorem ok_copied (T : Txt0 P K mg C_Rule) : OkF P w K mg base 13 "copied" ["term"] m_copied := (okr_copied T 11)
/-! ### Rule.__init__ -/
noncomputable def b_Rule___init__ : SS := sSeq (sIf (bNot (bOf (eCall m_is_term [] (aCons (eVar 1) (aNil)))))
  (sNever)
  (sNil))
  (sFld "Rule" 0 "form" (eCall m_copied [] (aCons (eVar 1) (aNil))))
noncomputable def m_Rule___init__ : FI := initM "Rule" 1 2 b_Rule___init__
theorem sc_Rule___init__ : FnScope ["self", "term"] ["self", "term"] (defScope s_Rule___init__) := ⟨rfl, rfl, rfl, by decide +kernel, rfl, by decide +kernel, by decide +kernel⟩
theorem ok_Rule___init__ (T : Txt0 P K mg C_Rule) : OkC P w K mg base 25 "Rule" C_Rule 1 ["self", "term"] m_Rule___init__ := by
  refine okC_mk (nm := ["self", "term"]) T.F_Rule___init__ sc_Rule___init__ rfl rfl (fun _ _ _ _ _ _ us hl => match us, hl with | [_, _], _ => rfl) (fun f cdv A outer s H E hr => ?_)
  have hr13 : Room 13 _ := hr.mono (by decide)
  have hr24 : Room 24 _ := hr.mono (by decide)
  exact s_cons (s_if (d_not (d_test (d_peek (c_call (ok_is_term T) hr24 (a_cons (d_var 1) (a_nil))))))
      (s_one (s_never))
      (s_nil))
      (s_one (s_fld (i := 0) T.c_Rule T.k_Rule T.a_Rule_form (c_call (ok_copied T) hr13 (a_cons (d_var 1) (a_nil)))))
/-! ### _law_spoilt (recursion) -/
noncomputable def b__law_spoilt (r__law_spoilt : FM) : SS := sIf (bOf (eOp (oInT true) (eOp oIx (ePeek 0) (eC (.int 0))) (eTup (aCons (eC (.str "of")) (aCons (eC (.str "now")) (aNil))))))
  (sSeq (sFor (iSeqW (eOp oIx (ePeek 0) (eNeg (eC (.int 1))))) (asgN 1)
  (sIf (bOf (eOp oNotN (ePeek 1) (eC .non)))
  (sDrop (eCall r__law_spoilt [] (aCons (eVar 1) (aNil))))
  (sNil)))
  (sAppC (eOp oIx (ePeek 0) (eNeg (eC (.int 1)))) (eC .non)))
  (sNil)
noncomputable def st__law_spoilt (p : FM) : FM := (fnM 1 2 (b__law_spoilt (p)))
noncomputable def mm__law_spoilt : Nat → FM
  | 0 => (fun _ _ => none)
  | n + 1 => st__law_spoilt (mm__law_spoilt n)
noncomputable abbrev mr__law_spoilt (n : Nat) : FM := (mm__law_spoilt n)
noncomputable abbrev m__law_spoilt : FM := mr__law_spoilt 11
theorem sr__law_spoilt (n : Nat) : mr__law_spoilt (n + 1) = fnM 1 2 (b__law_spoilt (mr__law_spoilt n)) := rfl
theorem sc__law_spoilt : FnScope ["_law_term_here", "_law_one"] ["_law_term_here"] (defScope s__law_spoilt) := ⟨rfl, rfl, rfl, by decide +kernel, rfl, by decide +kernel, by decide +kernel⟩
theorem okr__law_spoilt (T : Txt0 P K mg C_Rule) : ∀ n : Nat, OkF P w K mg base (1 + n) "_law_spoilt" ["_law_term_here"] (mr__law_spoilt n)
  | 0 => okF_0 T.F__law_spoilt (fun _ _ _ _ _ _ us hl => match us, hl with | [_], _ => rfl)
  | n + 1 => by
    have ih__law_spoilt := okr__law_spoilt T n
    refine okF_mk (k := 1 + n) (nm := ["_law_term_here", "_law_one"]) T.F__law_spoilt sc__law_spoilt (fun _ _ _ _ _ _ us hl => match us, hl with | [_], _ => rfl) (fun f cdv A outer s H E hr => ?_)
    exact s_one (s_if (d_testC (d_peek (d_ninT (d_peek (d_ix (d_look 0) (d_peek (d_int)))) (d_peek (d_tup (a_cons (d_str) (a_cons (d_str) (a_nil))))))))
            (s_cons (s_for PassesOwn.never rfl (i_seqW (d_ix (d_look 0) (d_peek (d_neg (d_peek (d_int)))))) (t_name (i := 1) sc__law_spoilt.nd) (gok_name 1)
            (s_one (s_if (d_testC (d_peek (d_notN (d_look 1) (d_peek (d_non)))))
            (s_one (s_drop (d_peek (c_call ih__law_spoilt hr (a_cons (d_var 1) (a_nil))))))
            (s_nil))))
            (s_one (s_appC (d_ix (d_look 0) (d_peek (d_neg (d_peek (d_int))))) (d_non))))
            (s_nil))
theorem ok__law_spoilt (T : Txt0 P K mg C_Rule) : OkF P w K mg base 12 "_law_spoilt" ["_law_term_here"] m__law_spoilt := (okr__law_spoilt T 11)
/-! ### copied@c (recursion) -/
noncomputable def b_copied_c (r_copied_c : FM) : SS := sRet (eIf (bOf (eCall m_is_part [] (aCons (eVar 0) (aNil)))) (eVar 0) (eCall m_with_inside [] (aCons (eVar 0) (aCons (eCel (lComp (iSeqW (eOp oIx (ePeek 0) (eNeg (eC (.int 1))))) (asgN 1) (bYes) (eCall r_copied_c [] (aCons (eVar 1) (aNil))) [1])) (aNil)))))
noncomputable def st_copied_c (p : FM) : FM := (fnM 1 2 (b_copied_c (p)))
noncomputable def mm_copied_c : Nat → FM
  | 0 => (fun _ _ => none)
  | n + 1 => st_copied_c (mm_copied_c n)
noncomputable abbrev mr_copied_c (n : Nat) : FM := (mm_copied_c n)
noncomputable abbrev m_copied_c : FM := mr_copied_c 11
theorem sr_copied_c (n : Nat) : mr_copied_c (n + 1) = fnM 1 2 (b_copied_c (mr_copied_c n)) := rfl
theorem sc_copied_c : FnScope ["term", "one"] ["term"] (defScope s_copied_c) := ⟨rfl, rfl, rfl, by decide +kernel, rfl, by decide +kernel, by decide +kernel⟩
theorem okr_copied_c (T : Txt0 P K mg C_Rule) : ∀ n : Nat, OkF P w K mg base (2 + n) "copied" ["term"] (mr_copied_c n)
  | 0 => okF_0 T.F_copied_c (fun _ _ _ _ _ _ us hl => match us, hl with | [_], _ => rfl)
  | n + 1 => by
    have ih_copied_c := okr_copied_c T n
    refine okF_mk (k := 2 + n) (nm := ["term", "one"]) T.F_copied_c sc_copied_c (fun _ _ _ _ _ _ us hl => match us, hl with | [_], _ => rfl) (fun f cdv A outer s H E hr => ?_)
    have hr1 : Room 1 _ := hr.mono (by omega)
    exact s_one (s_ret (d_if (d_test (d_peek (c_call (ok_is_part T) hr1 (a_cons (d_var 0) (a_nil))))) (d_var 0) (c_call (ok_with_inside T) hr1 (a_cons (d_var 0) (a_cons (d_cell (d_lc rfl sc_copied_c.nd (i_seqW (d_ix (d_look 0) (d_peek (d_neg (d_peek (d_int)))))) (blkOk_by (own := [("one", 1)]) (by first | (show blkC ["term", "one"] (defScope s_copied_c) _ _ = true; decide +kernel) | kernel_rfl | rfl)) (fun _ _ _ _ _ => t_name (i := 1) sc_copied_c.nd) (gok_name 1) (by decide) (fun _ _ _ _ _ => pts_nilT) (fun _ _ _ _ _ => c_call ih_copied_c hr (a_cons (d_var 1) (a_nil))))) (a_nil))))))
theorem ok_copied_c (T : Txt0 P K mg C_Rule) : OkF P w K mg base 13 "copied" ["term"] m_copied_c := (okr_copied_c T 11)
/-! ### Rule.term@c -/
noncomputable def b_Rule_term_c : SS := sRet (eCall m_copied_c [] (aCons (eFld "Rule" "form" (ePeek 0)) (aNil)))
noncomputable def m_Rule_term_c : FM := fnM 1 1 b_Rule_term_c
theorem sc_Rule_term_c : FnScope ["self"] ["self"] (defScope s_Rule_term_c) := ⟨rfl, rfl, rfl, by decide +kernel, rfl, by decide +kernel, by decide +kernel⟩
theorem ok_Rule_term_c (T : Txt0 P K mg C_Rule) : OkM P w K mg base 14 C_Rule "term" ["self"] m_Rule_term_c := by
  refine okM_mk (nm := ["self"]) T.F_Rule_term_c sc_Rule_term_c (fun _ _ _ _ _ _ us hl => match us, hl with | [_], _ => rfl) (fun f cdv A outer s H E hr => ?_)
  have hr13 : Room 13 _ := hr.mono (by decide)
  exact s_one (s_ret (c_call (ok_copied_c T) hr13 (a_cons (d_fld (d_look 0) T.c_Rule T.k_Rule T.a_Rule_form) (a_nil))))
/-! ### Rule.__eq__ -/
noncomputable def b_Rule___eq__ : SS := sRet (eAnd (eBi (gIsi CS) (aCons (ePeek 1) (aCons (eC (.cls "Rule")) (aNil)))) (eOp oEq (eFld "Rule" "form" (ePeek 0)) (eFld "Rule" "form" (ePeek 1))))
noncomputable def m_Rule___eq__ : FM := fnM 2 2 b_Rule___eq__
theorem sc_Rule___eq__ : FnScope ["self", "other"] ["self", "other"] (defScope s_Rule___eq__) := ⟨rfl, rfl, rfl, by decide +kernel, rfl, by decide +kernel, by decide +kernel⟩
theorem ok_Rule___eq__ (T : Txt0 P K mg C_Rule) : OkM P w K mg base 1 C_Rule "__eq__" ["self", "other"] m_Rule___eq__ := by
  refine okM_mk (nm := ["self", "other"]) T.F_Rule___eq__ sc_Rule___eq__ (fun _ _ _ _ _ _ us hl => match us, hl with | [_, _], _ => rfl) (fun f cdv A outer s H E hr => ?_)
  exact s_one (s_ret (v_and (d_peek (d_isi T.isi (T.n_isinstance) (p_cons (d_look 1) (p_cons (d_peek (d_cls (by rfl) T.c_Rule)) (p_nil))))) (v_one (d_eq hr.units (d_peek (d_fld (d_look 0) T.c_Rule T.k_Rule T.a_Rule_form)) (d_peek (d_fld (d_look 1) T.c_Rule T.k_Rule T.a_Rule_form))))))
theorem pu_Rule : PureM m_Rule___eq__ := pu_fn (by repeat (first | exact pu_var | exact pu_pk | exact pu_c | exact pu_nil | refine pu_cons ?_ ?_ | refine pu_bi ?_ | refine pu_op ?_ ?_ | refine pu_fld ?_ | refine pu_and ?_ ?_))
theorem eq_Rule {X : Cx} (T : Txt0 X.prog X.K X.mg C_Rule) : EqF X 1 C_Rule CS m_Rule___eq__ := ⟨T.isi, T.nf_Rule, T.ne_Rule, T.ob_Rule, _, rfl, ok_Rule___eq__ T⟩
/-! ### _law_bent (recursion) -/
noncomputable def b__law_bent (r__law_bent : FM) : SS := sSeq (sIf (bOf (eOp (oInT false) (eOp oIx (ePeek 1) (eC (.int 0))) (eTup (aCons (eC (.str "of")) (aCons (eC (.str "now")) (aNil))))))
  (sRet (eVar 2))
  (sNil))
  (sSeq (sPar 3 4 (.own (eBi gList (aCons (eOp oIx (ePeek 1) (eNeg (eC (.int 1)))) (aNil)))) (.val (eCall m__law_draw [] (aCons (eVar 0) (aCons (eBi gLen (aCons (eOp oIx (ePeek 1) (eNeg (eC (.int 1)))) (aNil))) (aNil))))))
  (sSeq (sPut 3 (ePeek 4) (eCall r__law_bent [] (aCons (eVar 0) (aCons (eOp oIx (ePeek 3) (ePeek 4)) (aCons (eVar 2) (aNil))))))
  (sFrz 3 (sRet (eOp oAdd (eSl slT (ePeek 1) (oNone) (oSome (eNeg (eC (.int 1))))) (eTup (aCons (eVar 3) (aNil))))))))
noncomputable def st__law_bent (p : FM) : FM := (fnM 3 5 (b__law_bent (p)))
noncomputable def mm__law_bent : Nat → FM
  | 0 => (fun _ _ => none)
  | n + 1 => st__law_bent (mm__law_bent n)
noncomputable abbrev mr__law_bent (n : Nat) : FM := (mm__law_bent n)
noncomputable abbrev m__law_bent : FM := mr__law_bent 11
theorem sr__law_bent (n : Nat) : mr__law_bent (n + 1) = fnM 3 5 (b__law_bent (mr__law_bent n)) := rfl
theorem sc__law_bent : FnScope ["_law_purse_here", "_law_term_here", "_law_odd_here", "_law_inner", "_law_at"] ["_law_purse_here", "_law_term_here", "_law_odd_here"] (defScope s__law_bent) := ⟨rfl, rfl, rfl, by decide +kernel, rfl, by decide +kernel, by decide +kernel⟩
theorem okr__law_bent (T : Txt0 P K mg C_Rule) : ∀ n : Nat, OkF P w K mg base (3 + n) "_law_bent" ["_law_purse_here", "_law_term_here", "_law_odd_here"] (mr__law_bent n)
  | 0 => okF_0 T.F__law_bent (fun _ _ _ _ _ _ us hl => match us, hl with | [_, _, _], _ => rfl)
  | n + 1 => by
    have ih__law_bent := okr__law_bent T n
    refine okF_mk (k := 3 + n) (nm := ["_law_purse_here", "_law_term_here", "_law_odd_here", "_law_inner", "_law_at"]) T.F__law_bent sc__law_bent (fun _ _ _ _ _ _ us hl => match us, hl with | [_, _, _], _ => rfl) (fun f cdv A outer s H E hr => ?_)
    have hr2 : Room 2 _ := hr.mono (by omega)
    exact s_cons (s_if (d_testC (d_peek (d_inT (d_peek (d_ix (d_look 1) (d_peek (d_int)))) (d_peek (d_tup (a_cons (d_str) (a_cons (d_str) (a_nil))))))))
            (s_one (s_ret (d_var 2)))
            (s_nil))
            (s_cons (s_par (i := 3) (j := 4) (ka := .own (eBi gList (aCons (eOp oIx (ePeek 1) (eNeg (eC (.int 1)))) (aNil)))) (kb := .val (eCall m__law_draw [] (aCons (eVar 0) (aCons (eBi gLen (aCons (eOp oIx (ePeek 1) (eNeg (eC (.int 1)))) (aNil))) (aNil))))) sc__law_bent.nd (k_own (d_list (T.n_list) (p_cons (d_peek (d_ix (d_look 1) (d_peek (d_neg (d_peek (d_int)))))) (p_nil)))) (k_val (c_call (ok__law_draw T) hr2 (a_cons (d_var 0) (a_cons (d_len (T.n_len) (p_cons (d_peek (d_ix (d_look 1) (d_peek (d_neg (d_peek (d_int)))))) (p_nil))) (a_nil))))))
            (s_cons (s_put (i := 3) (c_call ih__law_bent hr (a_cons (d_var 0) (a_cons (d_ix (d_look 3) (d_look 4)) (a_cons (d_var 2) (a_nil))))) (d_look 4))
            (s_one (s_frz 3 (s_ret (d_add (d_peek (d_slT (d_look 1) (o_none) (o_some (d_peek (d_neg (d_peek (d_int))))))) (d_peek (d_tup (a_cons (d_var 3) (a_nil))))))))))
theorem ok__law_bent (T : Txt0 P K mg C_Rule) : OkF P w K mg base 14 "_law_bent" ["_law_purse_here", "_law_term_here", "_law_odd_here"] m__law_bent := (okr__law_bent T 11)
/-! ### _law_many (recursion) -/
noncomputable def b__law_many (r__law_many : FM) : SS := sRet (eIf (bOf (eOp (oInT false) (eOp oIx (ePeek 0) (eC (.int 0))) (eTup (aCons (eC (.str "of")) (aCons (eC (.str "now")) (aNil)))))) (eC (.int 1)) (eBi gSum (aCons (eL (lComp (iSeq (eOp oIx (ePeek 0) (eNeg (eC (.int 1))))) (asgN 1) (bYes) (eCall r__law_many [] (aCons (eVar 1) (aNil))) [1])) (aNil))))
noncomputable def st__law_many (p : FM) : FM := (fnM 1 2 (b__law_many (p)))
noncomputable def mm__law_many : Nat → FM
  | 0 => (fun _ _ => none)
  | n + 1 => st__law_many (mm__law_many n)
noncomputable abbrev mr__law_many (n : Nat) : FM := (mm__law_many n)
noncomputable abbrev m__law_many : FM := mr__law_many 11
theorem sr__law_many (n : Nat) : mr__law_many (n + 1) = fnM 1 2 (b__law_many (mr__law_many n)) := rfl
theorem sc__law_many : FnScope ["_law_term_here", "_law_one"] ["_law_term_here"] (defScope s__law_many) := ⟨rfl, rfl, rfl, by decide +kernel, rfl, by decide +kernel, by decide +kernel⟩
theorem okr__law_many (T : Txt0 P K mg C_Rule) : ∀ n : Nat, OkF P w K mg base (1 + n) "_law_many" ["_law_term_here"] (mr__law_many n)
  | 0 => okF_0 T.F__law_many (fun _ _ _ _ _ _ us hl => match us, hl with | [_], _ => rfl)
  | n + 1 => by
    have ih__law_many := okr__law_many T n
    refine okF_mk (k := 1 + n) (nm := ["_law_term_here", "_law_one"]) T.F__law_many sc__law_many (fun _ _ _ _ _ _ us hl => match us, hl with | [_], _ => rfl) (fun f cdv A outer s H E hr => ?_)
    exact s_one (s_ret (d_if (d_testC (d_peek (d_inT (d_peek (d_ix (d_look 0) (d_peek (d_int)))) (d_peek (d_tup (a_cons (d_str) (a_cons (d_str) (a_nil)))))))) (d_int) (d_sum rfl (T.n_sum) (p_cons (d_peek (d_give (d_lc rfl sc__law_many.nd (i_seq (d_ix (d_look 0) (d_peek (d_neg (d_peek (d_int)))))) (blkOk_by (own := [("_law_one", 1)]) (by first | (show blkC ["_law_term_here", "_law_one"] (defScope s__law_many) _ _ = true; decide +kernel) | kernel_rfl | rfl)) (fun _ _ _ _ _ => t_name (i := 1) sc__law_many.nd) (gok_name 1) (by decide) (fun _ _ _ _ _ => pts_nilT) (fun _ _ _ _ _ => c_call ih__law_many hr (a_cons (d_var 1) (a_nil)))))) (p_nil)))))
theorem ok__law_many (T : Txt0 P K mg C_Rule) : OkF P w K mg base 12 "_law_many" ["_law_term_here"] m__law_many := (okr__law_many T 11)
/-! ### _law_unlike -/
noncomputable def b__law_unlike : SS := sSeq (sSet 2 (eTup (aCons (eC (.str "of")) (aCons (eC (.str "a")) (aCons (eOp oSub (eOp oPow (eC (.int 10)) (eC (.int 12))) (eC (.int 1))) (aNil))))))
  (sSeq (sOwn 3 (lDisp (aCons (eCall m__law_bent [] (aCons (eVar 0) (aCons (eVar 1) (aCons (eVar 2) (aNil))))) (aCons (eTup (aCons (eC (.str "first")) (aCons (eL (lDisp (aCons (eVar 1) (aNil)))) (aNil)))) (aCons (eTup (aCons (eC (.str "rank")) (aCons (eC (.int 1)) (aCons (eL (lDisp (aCons (eVar 1) (aNil)))) (aNil))))) (aNil))))))
  (sSeq (sIf (bOf (eOp oLt (eCall m__law_many [] (aCons (eVar 1) (aNil))) (eC (.int 5))))
  (sApp 3 (eTup (aCons (eC (.str "last")) (aCons (eL (lDisp (aCons (eVar 1) (aCons (eVar 1) (aNil))))) (aNil)))))
  (sNil))
  (sSeq (sIf (bOf (eOp (oInT false) (eOp oIx (ePeek 1) (eC (.int 0))) (eTup (aCons (eC (.str "first")) (aCons (eC (.str "last")) (aNil))))))
  (sOwn 3 (eOp oCat (ePeek 3) (eL (lDisp (aCons (eTup (aCons (eC (.str "rank")) (aCons (eC (.int 1)) (aCons (eOp oIx (ePeek 1) (eC (.int 1))) (aNil))))) (aCons (eTup (aCons (eOp oDx (eD (lDd [(eC (.str "first"), eC (.str "last")), (eC (.str "last"), eC (.str "first"))])) (eOp oIx (ePeek 1) (eC (.int 0)))) (aCons (eOp oIx (ePeek 1) (eC (.int 1))) (aNil)))) (aNil)))))))
  (sNil))
  (sSeq (sIf (bOf (eOp oEq (eOp oIx (ePeek 1) (eC (.int 0))) (eC (.str "rank"))))
  (sOwn 3 (eOp oCat (ePeek 3) (eL (lDisp (aCons (eTup (aCons (eC (.str "rank")) (aCons (eOp oAdd (eOp oMod (eOp oIx (ePeek 1) (eC (.int 1))) (eBi gLen (aCons (eOp oIx (ePeek 1) (eC (.int 2))) (aNil)))) (eC (.int 1))) (aCons (eOp oIx (ePeek 1) (eC (.int 2))) (aNil))))) (aCons (eTup (aCons (eC (.str "first")) (aCons (eOp oIx (ePeek 1) (eC (.int 2))) (aNil)))) (aNil)))))))
  (sNil))
  (sFrz 3 (sRet (eL (lComp (iSeq (eVar 3)) (asgN 4) (bOf (eOp oNe (ePeek 4) (ePeek 1))) (eVar 4) [4]))))))))
noncomputable def m__law_unlike : FM := fnM 2 5 b__law_unlike
theorem sc__law_unlike : FnScope ["_law_purse_here", "_law_term_here", "_law_part_here", "_law_some", "_law_one"] ["_law_purse_here", "_law_term_here"] (defScope s__law_unlike) := ⟨rfl, rfl, rfl, by decide +kernel, rfl, by decide +kernel, by decide +kernel⟩
theorem ok__law_unlike (T : Txt0 P K mg C_Rule) : OkF P w K mg base 15 "_law_unlike" ["_law_purse_here", "_law_term_here"] m__law_unlike := by
  refine okF_mk (nm := ["_law_purse_here", "_law_term_here", "_law_part_here", "_law_some", "_law_one"]) T.F__law_unlike sc__law_unlike (fun _ _ _ _ _ _ us hl => match us, hl with | [_, _], _ => rfl) (fun f cdv A outer s H E hr => ?_)
  have hr12 : Room 12 _ := hr.mono (by decide)
  have hr14 : Room 14 _ := hr.mono (by decide)
  exact s_cons (s_set (i := 2) sc__law_unlike.nd (d_tup (a_cons (d_str) (a_cons (d_str) (a_cons (d_sub (d_peek (d_pow (d_peek (d_int)) (d_peek (d_int)))) (d_peek (d_int))) (a_nil))))))
      (s_cons (s_own (i := 3) sc__law_unlike.nd (d_lst (a_cons (c_call (ok__law_bent T) hr14 (a_cons (d_var 0) (a_cons (d_var 1) (a_cons (d_var 2) (a_nil))))) (a_cons (d_tup (a_cons (d_str) (a_cons (d_give (d_lst (a_cons (d_var 1) (a_nil)))) (a_nil)))) (a_cons (d_tup (a_cons (d_str) (a_cons (d_int) (a_cons (d_give (d_lst (a_cons (d_var 1) (a_nil)))) (a_nil))))) (a_nil))))))
      (s_cons (s_if (d_testC (d_peek (d_lt (d_peek (c_call (ok__law_many T) hr12 (a_cons (d_var 1) (a_nil)))) (d_peek (d_int)))))
      (s_one (s_app (i := 3) (d_tup (a_cons (d_str) (a_cons (d_give (d_lst (a_cons (d_var 1) (a_cons (d_var 1) (a_nil))))) (a_nil))))))
      (s_nil))
      (s_cons (s_if (d_testC (d_peek (d_inT (d_peek (d_ix (d_look 1) (d_peek (d_int)))) (d_peek (d_tup (a_cons (d_str) (a_cons (d_str) (a_nil))))))))
      (s_one (s_own (i := 3) sc__law_unlike.nd (d_addL (d_look 3) (d_peek (d_give (d_lst (a_cons (d_tup (a_cons (d_str) (a_cons (d_int) (a_cons (d_ix (d_look 1) (d_peek (d_int))) (a_nil))))) (a_cons (d_tup (a_cons (d_dx (u1 hr) (d_peek (d_giveD (d_disp (dd_cons (d_str) (d_str) (dd_cons (d_str) (d_str) (dd_nil)))))) (d_peek (d_ix (d_look 1) (d_peek (d_int))))) (a_cons (d_ix (d_look 1) (d_peek (d_int))) (a_nil)))) (a_nil)))))))))
      (s_nil))
      (s_cons (s_if (d_testC (d_peek (d_eq hr.units (d_peek (d_ix (d_look 1) (d_peek (d_int)))) (d_peek (d_str)))))
      (s_one (s_own (i := 3) sc__law_unlike.nd (d_addL (d_look 3) (d_peek (d_give (d_lst (a_cons (d_tup (a_cons (d_str) (a_cons (d_add (d_peek (d_mod (d_peek (d_ix (d_look 1) (d_peek (d_int)))) (d_peek (d_len (T.n_len) (p_cons (d_peek (d_ix (d_look 1) (d_peek (d_int)))) (p_nil)))))) (d_peek (d_int))) (a_cons (d_ix (d_look 1) (d_peek (d_int))) (a_nil))))) (a_cons (d_tup (a_cons (d_str) (a_cons (d_ix (d_look 1) (d_peek (d_int))) (a_nil)))) (a_nil)))))))))
      (s_nil))
      (s_one (s_frz 3 (s_ret (d_give (d_lc rfl sc__law_unlike.nd (i_seq (d_var 3)) (blkOk_by (own := [("_law_one", 4)]) (by first | (show blkC ["_law_purse_here", "_law_term_here", "_law_part_here", "_law_some", "_law_one"] (defScope s__law_unlike) _ _ = true; decide +kernel) | kernel_rfl | rfl)) (fun _ _ _ _ _ => t_name (i := 4) sc__law_unlike.nd) (gok_name 4) (by decide) (fun _ _ _ _ _ => pts_oneT (d_testC (d_peek (d_ne hr.units (d_look 4) (d_look 1))))) (fun _ _ _ _ _ => d_var 4))))))))))
/-! ### _law_odd -/
noncomputable def b__law_odd : SS := sSeq (sOwn 1 (lDisp (aCons (eC .non) (aCons (eC (.int 5)) (aCons (eC (.bl true)) (aCons (eC (.str "of")) (aCons (eTup (aNil)) (aCons (eL (lDisp (aNil))) (aCons (eD (lD0)) (aCons (eTup (aCons (eC (.str "of")) (aNil))) (aCons (eTup (aCons (eC (.str "of")) (aCons (eC (.str "a")) (aNil)))) (aCons (eTup (aCons (eC (.str "of")) (aCons (eC (.str "a")) (aCons (eC (.int 1)) (aCons (eC (.int 2)) (aNil)))))) (aCons (eTup (aCons (eC (.str "of")) (aCons (eC (.str "A")) (aCons (eC (.int 1)) (aNil))))) (aCons (eTup (aCons (eC (.str "of")) (aCons (eC (.str "")) (aCons (eC (.int 0)) (aNil))))) (aNil)))))))))))))))
  (sSeq (sOwn 1 (eOp oCat (ePeek 1) (eL (lDisp (aCons (eTup (aCons (eC (.str "of")) (aCons (eC (.str "abcdefghi")) (aCons (eC (.int 0)) (aNil))))) (aCons (eTup (aCons (eC (.str "of")) (aCons (eC (.str "a")) (aCons (eC (.bl true)) (aNil))))) (aCons (eTup (aCons (eC (.str "of")) (aCons (eC (.str "a")) (aCons (eC (.str "1")) (aNil))))) (aCons (eTup (aCons (eC (.str "of")) (aCons (eC (.str "a")) (aCons (eC .non) (aNil))))) (aCons (eTup (aCons (eC (.str "of")) (aCons (eC (.str "a")) (aCons (eTup (aCons (eC (.int 1)) (aNil))) (aNil))))) (aNil))))))))))
  (sSeq (sOwn 1 (eOp oCat (ePeek 1) (eL (lDisp (aCons (eTup (aCons (eC (.str "of")) (aCons (eC (.int 1)) (aCons (eC (.int 1)) (aNil))))) (aCons (eL (lDisp (aCons (eC (.str "of")) (aCons (eC (.str "a")) (aCons (eC (.int 1)) (aNil)))))) (aCons (eTup (aCons (eC (.str "first")) (aNil))) (aCons (eTup (aCons (eC (.str "first")) (aCons (eL (lDisp (aNil))) (aNil)))) (aCons (eTup (aCons (eC (.str "first")) (aCons (eTup (aNil)) (aNil)))) (aCons (eTup (aCons (eC (.str "first")) (aCons (eTup (aCons (eVar 0) (aNil))) (aNil)))) (aNil)))))))))))
  (sSeq (sOwn 1 (eOp oCat (ePeek 1) (eL (lDisp (aCons (eTup (aCons (eC (.str "first")) (aCons (eVar 0) (aNil)))) (aCons (eTup (aCons (eC (.str "first")) (aCons (eL (lDisp (aCons (eVar 0) (aNil)))) (aCons (eL (lDisp (aNil))) (aNil))))) (aCons (eTup (aCons (eC (.str "last")) (aCons (eL (lDisp (aCons (eC .non) (aNil)))) (aNil)))) (aCons (eTup (aCons (eC (.str "last")) (aCons (eC .non) (aNil)))) (aNil)))))))))
  (sSeq (sApp 1 (eTup (aCons (eC (.str "last")) (aCons (eD (lDd [(eC (.str "a"), eVar 0)])) (aNil)))))
  (sSeq (sOwn 1 (eOp oCat (ePeek 1) (eL (lDisp (aCons (eTup (aCons (eC (.str "rank")) (aCons (eL (lDisp (aCons (eVar 0) (aNil)))) (aNil)))) (aCons (eTup (aCons (eC (.str "rank")) (aCons (eC (.int 0)) (aCons (eL (lDisp (aCons (eVar 0) (aNil)))) (aNil))))) (aCons (eTup (aCons (eC (.str "rank")) (aCons (eC (.int 2)) (aCons (eL (lDisp (aCons (eVar 0) (aNil)))) (aNil))))) (aCons (eTup (aCons (eC (.str "rank")) (aCons (eC (.bl true)) (aCons (eL (lDisp (aCons (eVar 0) (aNil)))) (aNil))))) (aNil)))))))))
  (sSeq (sOwn 1 (eOp oCat (ePeek 1) (eL (lDisp (aCons (eTup (aCons (eC (.str "rank")) (aCons (eC (.str "1")) (aCons (eL (lDisp (aCons (eVar 0) (aNil)))) (aNil))))) (aCons (eTup (aCons (eC (.str "rank")) (aCons (eC (.int 1)) (aCons (eL (lDisp (aNil))) (aNil))))) (aCons (eTup (aCons (eC (.str "rank")) (aCons (eC (.int 1)) (aCons (eTup (aCons (eVar 0) (aNil))) (aNil))))) (aCons (eTup (aCons (eC (.str "rank")) (aCons (eL (lDisp (aCons (eVar 0) (aNil)))) (aCons (eC (.int 1)) (aNil))))) (aNil)))))))))
  (sSeq (sOwn 1 (eOp oCat (ePeek 1) (eL (lDisp (aCons (eTup (aCons (eC (.str "rank")) (aCons (eNeg (eC (.int 1))) (aCons (eL (lDisp (aCons (eVar 0) (aNil)))) (aNil))))) (aCons (eTup (aCons (eC (.str "middle")) (aCons (eL (lDisp (aCons (eVar 0) (aNil)))) (aNil)))) (aCons (eTup (aCons (eC (.int 5)) (aCons (eL (lDisp (aCons (eVar 0) (aNil)))) (aNil)))) (aCons (eTup (aCons (eTup (aCons (eC (.str "of")) (aNil))) (aCons (eC (.str "a")) (aCons (eC (.int 1)) (aNil))))) (aNil)))))))))
  (sSeq (sOwn 1 (eOp oCat (ePeek 1) (eL (lDisp (aCons (eTup (aCons (eC (.str "now")) (aCons (eC (.str "a b")) (aCons (eC (.int 1)) (aNil))))) (aCons (eTup (aCons (eC (.str "Of")) (aCons (eC (.str "a")) (aCons (eC (.int 1)) (aNil))))) (aCons (eTup (aCons (eC (.str "of")) (aCons (eC .non) (aCons (eC (.int 1)) (aNil))))) (aNil))))))))
  (sSeq (sOwn 1 (eOp oCat (ePeek 1) (eL (lDisp (aCons (eL (lDisp (aCons (eC (.str "first")) (aCons (eL (lDisp (aCons (eVar 0) (aNil)))) (aNil))))) (aCons (eTup (aCons (eC (.str "rank")) (aCons (eC (.int 1)) (aCons (eL (lDisp (aCons (eVar 0) (aNil)))) (aCons (eC (.int 1)) (aNil)))))) (aCons (eTup (aCons (eC (.str "last")) (aCons (eL (lDisp (aNil))) (aNil)))) (aCons (eTup (aCons (eC (.str "last")) (aNil))) (aCons (eTup (aCons (eC (.str "last")) (aCons (eTup (aCons (eVar 0) (aNil))) (aNil)))) (aNil))))))))))
  (sSeq (sOwn 1 (eOp oCat (ePeek 1) (eL (lDisp (aCons (eTup (aCons (eC (.str "of")) (aCons (eC (.str "a\n")) (aCons (eC (.int 0)) (aNil))))) (aCons (eTup (aCons (eC (.str "now")) (aCons (eC (.str "\na")) (aCons (eC (.int 0)) (aNil))))) (aCons (eTup (aCons (eC (.str "of")) (aCons (eC (.str "a ")) (aCons (eC (.int 1)) (aNil))))) (aNil))))))))
  (sSeq (sOwn 1 (eOp oCat (ePeek 1) (eL (lDisp (aCons (eTup (aCons (eL (lDisp (aCons (eC (.str "of")) (aNil)))) (aCons (eC (.str "a")) (aCons (eC (.int 1)) (aNil))))) (aCons (eTup (aCons (eL (lDisp (aNil))) (aCons (eL (lDisp (aCons (eVar 0) (aNil)))) (aNil)))) (aCons (eTup (aCons (eD (lD0)) (aCons (eC (.str "a")) (aCons (eC (.int 1)) (aNil))))) (aCons (eTup (aCons (eC (.str "rank")) (aCons (eL (lDisp (aNil))) (aCons (eL (lDisp (aCons (eVar 0) (aNil)))) (aNil))))) (aNil)))))))))
  (sRet (eOp oAdd (ePeek 1) (eL (lDisp (aCons (eTup (aCons (eC (.str "now")) (aCons (eC (.str "a")) (aCons (eC (.bl false)) (aNil))))) (aCons (eTup (aCons (eC (.str "last")) (aCons (eL (lDisp (aCons (eVar 0) (aCons (eL (lDisp (aNil))) (aNil))))) (aNil)))) (aCons (eTup (aCons (eC (.str "first")) (aCons (eC (.int 1)) (aNil)))) (aCons (eTup (aCons (eC (.str "rank")) (aCons (eC .non) (aCons (eL (lDisp (aCons (eVar 0) (aNil)))) (aNil))))) (aCons (eTup (aCons (eC (.str "of")) (aCons (eC (.str "a1")) (aCons (eC (.int 1)) (aNil))))) (aNil)))))))))))))))))))))
noncomputable def m__law_odd : FM := fnM 1 2 b__law_odd
theorem sc__law_odd : FnScope ["_law_part_here", "_law_some"] ["_law_part_here"] (defScope s__law_odd) := ⟨rfl, rfl, rfl, by decide +kernel, rfl, by decide +kernel, by decide +kernel⟩
theorem ok__law_odd (T : Txt0 P K mg C_Rule) : OkF P w K mg base 1 "_law_odd" ["_law_part_here"] m__law_odd := by
  refine okF_mk (nm := ["_law_part_here", "_law_some"]) T.F__law_odd sc__law_odd (fun _ _ _ _ _ _ us hl => match us, hl with | [_], _ => rfl) (fun f cdv A outer s H E hr => ?_)
  exact s_cons (s_own (i := 1) sc__law_odd.nd (d_lst (a_cons (d_non) (a_cons (d_int) (a_cons (d_bl) (a_cons (d_str) (a_cons (d_tup (a_nil)) (a_cons (d_give (d_lst (a_nil))) (a_cons (d_giveD (d_d0)) (a_cons (d_tup (a_cons (d_str) (a_nil))) (a_cons (d_tup (a_cons (d_str) (a_cons (d_str) (a_nil)))) (a_cons (d_tup (a_cons (d_str) (a_cons (d_str) (a_cons (d_int) (a_cons (d_int) (a_nil)))))) (a_cons (d_tup (a_cons (d_str) (a_cons (d_str) (a_cons (d_int) (a_nil))))) (a_cons (d_tup (a_cons (d_str) (a_cons (d_str) (a_cons (d_int) (a_nil))))) (a_nil)))))))))))))))
      (s_cons (s_own (i := 1) sc__law_odd.nd (d_addL (d_look 1) (d_peek (d_give (d_lst (a_cons (d_tup (a_cons (d_str) (a_cons (d_str) (a_cons (d_int) (a_nil))))) (a_cons (d_tup (a_cons (d_str) (a_cons (d_str) (a_cons (d_bl) (a_nil))))) (a_cons (d_tup (a_cons (d_str) (a_cons (d_str) (a_cons (d_str) (a_nil))))) (a_cons (d_tup (a_cons (d_str) (a_cons (d_str) (a_cons (d_non) (a_nil))))) (a_cons (d_tup (a_cons (d_str) (a_cons (d_str) (a_cons (d_tup (a_cons (d_int) (a_nil))) (a_nil))))) (a_nil)))))))))))
      (s_cons (s_own (i := 1) sc__law_odd.nd (d_addL (d_look 1) (d_peek (d_give (d_lst (a_cons (d_tup (a_cons (d_str) (a_cons (d_int) (a_cons (d_int) (a_nil))))) (a_cons (d_give (d_lst (a_cons (d_str) (a_cons (d_str) (a_cons (d_int) (a_nil)))))) (a_cons (d_tup (a_cons (d_str) (a_nil))) (a_cons (d_tup (a_cons (d_str) (a_cons (d_give (d_lst (a_nil))) (a_nil)))) (a_cons (d_tup (a_cons (d_str) (a_cons (d_tup (a_nil)) (a_nil)))) (a_cons (d_tup (a_cons (d_str) (a_cons (d_tup (a_cons (d_var 0) (a_nil))) (a_nil)))) (a_nil))))))))))))
      (s_cons (s_own (i := 1) sc__law_odd.nd (d_addL (d_look 1) (d_peek (d_give (d_lst (a_cons (d_tup (a_cons (d_str) (a_cons (d_var 0) (a_nil)))) (a_cons (d_tup (a_cons (d_str) (a_cons (d_give (d_lst (a_cons (d_var 0) (a_nil)))) (a_cons (d_give (d_lst (a_nil))) (a_nil))))) (a_cons (d_tup (a_cons (d_str) (a_cons (d_give (d_lst (a_cons (d_non) (a_nil)))) (a_nil)))) (a_cons (d_tup (a_cons (d_str) (a_cons (d_non) (a_nil)))) (a_nil))))))))))
      (s_cons (s_app (i := 1) (d_tup (a_cons (d_str) (a_cons (d_giveD (d_disp (dd_cons (d_str) (d_var 0) (dd_nil)))) (a_nil)))))
      (s_cons (s_own (i := 1) sc__law_odd.nd (d_addL (d_look 1) (d_peek (d_give (d_lst (a_cons (d_tup (a_cons (d_str) (a_cons (d_give (d_lst (a_cons (d_var 0) (a_nil)))) (a_nil)))) (a_cons (d_tup (a_cons (d_str) (a_cons (d_int) (a_cons (d_give (d_lst (a_cons (d_var 0) (a_nil)))) (a_nil))))) (a_cons (d_tup (a_cons (d_str) (a_cons (d_int) (a_cons (d_give (d_lst (a_cons (d_var 0) (a_nil)))) (a_nil))))) (a_cons (d_tup (a_cons (d_str) (a_cons (d_bl) (a_cons (d_give (d_lst (a_cons (d_var 0) (a_nil)))) (a_nil))))) (a_nil))))))))))
      (s_cons (s_own (i := 1) sc__law_odd.nd (d_addL (d_look 1) (d_peek (d_give (d_lst (a_cons (d_tup (a_cons (d_str) (a_cons (d_str) (a_cons (d_give (d_lst (a_cons (d_var 0) (a_nil)))) (a_nil))))) (a_cons (d_tup (a_cons (d_str) (a_cons (d_int) (a_cons (d_give (d_lst (a_nil))) (a_nil))))) (a_cons (d_tup (a_cons (d_str) (a_cons (d_int) (a_cons (d_tup (a_cons (d_var 0) (a_nil))) (a_nil))))) (a_cons (d_tup (a_cons (d_str) (a_cons (d_give (d_lst (a_cons (d_var 0) (a_nil)))) (a_cons (d_int) (a_nil))))) (a_nil))))))))))
      (s_cons (s_own (i := 1) sc__law_odd.nd (d_addL (d_look 1) (d_peek (d_give (d_lst (a_cons (d_tup (a_cons (d_str) (a_cons (d_neg (d_peek (d_int))) (a_cons (d_give (d_lst (a_cons (d_var 0) (a_nil)))) (a_nil))))) (a_cons (d_tup (a_cons (d_str) (a_cons (d_give (d_lst (a_cons (d_var 0) (a_nil)))) (a_nil)))) (a_cons (d_tup (a_cons (d_int) (a_cons (d_give (d_lst (a_cons (d_var 0) (a_nil)))) (a_nil)))) (a_cons (d_tup (a_cons (d_tup (a_cons (d_str) (a_nil))) (a_cons (d_str) (a_cons (d_int) (a_nil))))) (a_nil))))))))))
      (s_cons (s_own (i := 1) sc__law_odd.nd (d_addL (d_look 1) (d_peek (d_give (d_lst (a_cons (d_tup (a_cons (d_str) (a_cons (d_str) (a_cons (d_int) (a_nil))))) (a_cons (d_tup (a_cons (d_str) (a_cons (d_str) (a_cons (d_int) (a_nil))))) (a_cons (d_tup (a_cons (d_str) (a_cons (d_non) (a_cons (d_int) (a_nil))))) (a_nil)))))))))
      (s_cons (s_own (i := 1) sc__law_odd.nd (d_addL (d_look 1) (d_peek (d_give (d_lst (a_cons (d_give (d_lst (a_cons (d_str) (a_cons (d_give (d_lst (a_cons (d_var 0) (a_nil)))) (a_nil))))) (a_cons (d_tup (a_cons (d_str) (a_cons (d_int) (a_cons (d_give (d_lst (a_cons (d_var 0) (a_nil)))) (a_cons (d_int) (a_nil)))))) (a_cons (d_tup (a_cons (d_str) (a_cons (d_give (d_lst (a_nil))) (a_nil)))) (a_cons (d_tup (a_cons (d_str) (a_nil))) (a_cons (d_tup (a_cons (d_str) (a_cons (d_tup (a_cons (d_var 0) (a_nil))) (a_nil)))) (a_nil)))))))))))
      (s_cons (s_own (i := 1) sc__law_odd.nd (d_addL (d_look 1) (d_peek (d_give (d_lst (a_cons (d_tup (a_cons (d_str) (a_cons (d_str) (a_cons (d_int) (a_nil))))) (a_cons (d_tup (a_cons (d_str) (a_cons (d_str) (a_cons (d_int) (a_nil))))) (a_cons (d_tup (a_cons (d_str) (a_cons (d_str) (a_cons (d_int) (a_nil))))) (a_nil)))))))))
      (s_cons (s_own (i := 1) sc__law_odd.nd (d_addL (d_look 1) (d_peek (d_give (d_lst (a_cons (d_tup (a_cons (d_give (d_lst (a_cons (d_str) (a_nil)))) (a_cons (d_str) (a_cons (d_int) (a_nil))))) (a_cons (d_tup (a_cons (d_give (d_lst (a_nil))) (a_cons (d_give (d_lst (a_cons (d_var 0) (a_nil)))) (a_nil)))) (a_cons (d_tup (a_cons (d_giveD (d_d0)) (a_cons (d_str) (a_cons (d_int) (a_nil))))) (a_cons (d_tup (a_cons (d_str) (a_cons (d_give (d_lst (a_nil))) (a_cons (d_give (d_lst (a_cons (d_var 0) (a_nil)))) (a_nil))))) (a_nil))))))))))
      (s_one (s_ret (d_add (d_look 1) (d_peek (d_give (d_lst (a_cons (d_tup (a_cons (d_str) (a_cons (d_str) (a_cons (d_bl) (a_nil))))) (a_cons (d_tup (a_cons (d_str) (a_cons (d_give (d_lst (a_cons (d_var 0) (a_cons (d_give (d_lst (a_nil))) (a_nil))))) (a_nil)))) (a_cons (d_tup (a_cons (d_str) (a_cons (d_int) (a_nil)))) (a_cons (d_tup (a_cons (d_str) (a_cons (d_non) (a_cons (d_give (d_lst (a_cons (d_var 0) (a_nil)))) (a_nil))))) (a_cons (d_tup (a_cons (d_str) (a_cons (d_str) (a_cons (d_int) (a_nil))))) (a_nil)))))))))))))))))))))))
/-! ### Rule.__init__, that may raise -/
noncomputable def bx_Rule___init__ : SX := xSeq (xIf (bNot (bOf (eCall m_is_term [] (aCons (eVar 1) (aNil)))))
  (xRaise "InvalidTerm" (eVar 1))
  (xNil))
  (xL (sFld "Rule" 0 "form" (eCall m_copied [] (aCons (eVar 1) (aNil)))))
noncomputable def mx_Rule___init__ : FIX := initMX "Rule" 1 2 bx_Rule___init__
theorem scx_Rule___init__ : FnScope ["self", "term"] ["self", "term"] (defScope sx_Rule___init__) := ⟨rfl, rfl, rfl, by decide +kernel, rfl, by decide +kernel, by decide +kernel⟩
theorem okx_Rule___init__ (T : Txt0 P K mg C_Rule) : OkCX P w K mg base 25 "Rule" C_Rule 1 ["self", "term"] mx_Rule___init__ := by
  refine okCX_mk (nm := ["self", "term"]) T.F_Rule___init__ scx_Rule___init__ rfl rfl (fun _ _ _ _ _ _ us hl => match us, hl with | [_, _], _ => rfl) (fun f cdv A outer s H E hr tk => ?_)
  have hr1 : Room 1 _ := hr.mono (by decide)
  have hr13 : Room 13 _ := hr.mono (by decide)
  have hr24 : Room 24 _ := hr.mono (by decide)
  exact x_cons (x_if (d_not (d_test (d_peek (c_call (ok_is_term T) hr24 (a_cons (d_var 1) (a_nil))))))
      (x_one (x_rs T.lf_InvalidTerm rfl (T.n_super) hr1 tk (d_var 1)))
      (x_nil))
      (x_one (x_lift (s_fld (i := 0) T.c_Rule T.k_Rule T.a_Rule_form (c_call (ok_copied T) hr13 (a_cons (d_var 1) (a_nil))))))
/-! ### _law_caught -/
noncomputable def b__law_caught : SS := sSeq (sSet 1 (eC .non))
  (sSeq (sTry (subT [("InvalidTerm", "InvalidTerm", true)]) (xDrop (eMakeX "Rule" mx_Rule___init__ [] (aCons (eVar 0) (aNil)))) [("InvalidTerm", some 2, (fun d => sSet 1 (eL (fun env st => (eK d env st).map fun p => ([p.1], p.2)))))])
  (sRet (eVar 1)))
noncomputable def m__law_caught : FM := fnM 1 3 b__law_caught
theorem sc__law_caught : FnScope ["_law_thing", "_law_caught_here", "error"] ["_law_thing"] (defScope s__law_caught) := ⟨rfl, rfl, rfl, by decide +kernel, rfl, by decide +kernel, by decide +kernel⟩
theorem ok__law_caught (T : Txt0 P K mg C_Rule) : OkF P w K mg base 27 "_law_caught" ["_law_thing"] m__law_caught := by
  refine okF_mk (nm := ["_law_thing", "_law_caught_here", "error"]) T.F__law_caught sc__law_caught (fun _ _ _ _ _ _ us hl => match us, hl with | [_], _ => rfl) (fun f cdv A outer s H E hr => ?_)
  have hr26 : Room 26 _ := hr.mono (by decide)
  obtain ⟨C_lf_InvalidTerm, _, _, g_InvalidTerm, _, _, x_InvalidTerm, n_InvalidTerm⟩ := T.lf_InvalidTerm
  exact s_cons (s_set (i := 1) sc__law_caught.nd (d_non))
      (s_cons (s_try (mg := ⟨mg, K⟩) (sub := subT [("InvalidTerm", "InvalidTerm", true)]) (fb := xDrop (eMakeX "Rule" mx_Rule___init__ [] (aCons (eVar 0) (aNil)))) (l := [(C_lf_InvalidTerm, "InvalidTerm", some 2, (fun d => sSet 1 (eL (fun env st => (eK d env st).map fun p => ([p.1], p.2)))))]) (by exact T.em) (fun p hp => by
        simp only [List.mem_cons, List.not_mem_nil, or_false] at hp
        subst hp
        exact g_InvalidTerm) sc__law_caught.nd rfl rfl (fun W pn xe tk _ => x_one (x_drop (x_make (okx_Rule___init__ T) T.c_Rule hr26 tk (a_cons (d_var 0) (a_nil)))))
      (hd_as g_InvalidTerm (fun a oe cls d pn hz hf => su_set (j := 1) sc__law_caught.nd (su_l1 (su_val x_InvalidTerm n_InvalidTerm g_InvalidTerm hz hf)))
      (hd_nil)))
      (s_one (s_ret (d_var 1))))
/-! ### _law_right -/
noncomputable def b__law_right : SS := sSeq (sSet 1 (eCall m__law_names [] (aCons (eVar 0) (aCons (eC (.int 3)) (aNil)))))
  (sSeq (sSet 2 (eCall m__law_term [] (aCons (eVar 0) (aCons (eVar 1) (aCons (eL (eSl slL (ePeek 1) (oNone) (oSome (eCall m__law_draw [] (aCons (eVar 0) (aCons (eC (.int 2)) (aNil))))))) (aCons (eOp oAdd (eC (.int 1)) (eCall m__law_draw [] (aCons (eVar 0) (aCons (eC (.int 8)) (aNil))))) (aCons (eC (.bl false)) (aNil))))))))
  (sSeq (sPar 3 4 (.val (eCall m__law_again [] (aCons (eVar 2) (aNil)))) (.val (eBi gRepr (aCons (ePeek 2) (aNil)))))
  (sSeq (sSet 5 (eMake "Rule" m_Rule___init__ [] (aCons (eVar 3) (aNil))))
  (sSeq (sDrop (eCall m__law_spoilt [] (aCons (eVar 3) (aNil))))
  (sSeq (sSet 6 (eMeth "Rule" "term" m_Rule_term_c [] (eVar 5) (aNil)))
  (sSeq (sIf (bOf (eOp oNe (eBi gRepr (aCons (ePeek 6) (aNil))) (ePeek 4)))
  (sRet (eC (.bl false)))
  (sNil))
  (sSeq (sDrop (eCall m__law_spoilt [] (aCons (eVar 6) (aNil))))
  (sSeq (sIf (bOr (bOf (eOp oNe (eBi gRepr (aCons (eMeth "Rule" "term" m_Rule_term_c [] (eVar 5) (aNil)) (aNil))) (ePeek 4))) (bOr (bNot (bOf (eOwn "Rule" CS false m_Rule___eq__ (eVar 5) (eMake "Rule" m_Rule___init__ [] (aCons (eCall m__law_again [] (aCons (eVar 2) (aNil))) (aNil)))))) (bOr (bOf (eOwn "Rule" CS false m_Rule___eq__ (eVar 5) (eVar 2))) (bOf (eOwn "Rule" CS false m_Rule___eq__ (eVar 5) (eVar 4))))))
  (sRet (eC (.bl false)))
  (sNil))
  (sSeq (sIf (bOf (eOp oNe (eL (lComp (iSeq (eCall m__law_unlike [] (aCons (eVar 0) (aCons (eVar 2) (aNil))))) (asgN 7) (bOr (bOf (eOwn "Rule" CS false m_Rule___eq__ (eVar 5) (eMake "Rule" m_Rule___init__ [] (aCons (eVar 7) (aNil))))) (bNot (bOf (eOwn "Rule" CS true m_Rule___eq__ (eVar 5) (eMake "Rule" m_Rule___init__ [] (aCons (eVar 7) (aNil))))))) (eVar 7) [7])) (eL (lDisp (aNil)))))
  (sRet (eC (.bl false)))
  (sNil))
  (sSeq (sFor (iSeq (eCall m__law_odd [] (aCons (eTup (aCons (eC (.str "of")) (aCons (eOp oIx (ePeek 1) (eC (.int 0))) (aCons (eC (.int 1)) (aNil))))) (aNil)))) (asgN 8)
  (sSeq (sSet 9 (eCall m__law_bent [] (aCons (eVar 0) (aCons (eVar 2) (aCons (eVar 8) (aNil))))))
  (sIf (bOr (bOf (eOp oNeY (eCall m__law_caught [] (aCons (eVar 8) (aNil))) (eL (lDisp (aCons (eVar 8) (aNil)))))) (bOf (eOp oNeY (eCall m__law_caught [] (aCons (eVar 9) (aNil))) (eL (lDisp (aCons (eVar 9) (aNil)))))))
  (sRet (eC (.bl false)))
  (sNil))))
  (sRet (eOp oIsN (eCall m__law_caught [] (aCons (eVar 2) (aNil))) (eC .non)))))))))))))
noncomputable def m__law_right : FM := fnM 1 10 b__law_right
theorem sc__law_right : FnScope ["_law_purse_here", "_law_names_here", "_law_term_here", "_law_passed", "_law_due", "_law_rule", "_law_seen", "_law_one", "_law_odd_here", "_law_bent_here"] ["_law_purse_here"] (defScope s__law_right) := ⟨rfl, rfl, rfl, by decide +kernel, rfl, by decide +kernel, by decide +kernel⟩
theorem ok__law_right (T : Txt0 P K mg C_Rule) : OkD P w K mg base 28 "_law_right" ["_law_purse_here"] m__law_right := by
  refine okD_mk (nm := ["_law_purse_here", "_law_names_here", "_law_term_here", "_law_passed", "_law_due", "_law_rule", "_law_seen", "_law_one", "_law_odd_here", "_law_bent_here"]) T.F__law_right sc__law_right (fun _ _ _ _ _ _ us hl => match us, hl with | [_], _ => rfl) (fun f cdv A outer s H E hr hgd => ?_)
  have hr1 : Room 1 _ := hr.mono (by decide)
  have hr2 : Room 2 _ := hr.mono (by decide)
  have hr4 : Room 4 _ := hr.mono (by decide)
  have hr12 : Room 12 _ := hr.mono (by decide)
  have hr14 : Room 14 _ := hr.mono (by decide)
  have hr15 : Room 15 _ := hr.mono (by decide)
  have hr16 : Room 16 _ := hr.mono (by decide)
  have hr26 : Room 26 _ := hr.mono (by decide)
  have hr27 : Room 27 _ := hr.mono (by decide)
  exact s_cons (s_set (i := 1) sc__law_right.nd (c_call (ok__law_names T) hr4 (a_cons (d_var 0) (a_cons (d_int) (a_nil)))))
      (s_cons (s_set (i := 2) sc__law_right.nd (c_call (ok__law_term T) hr16 (a_cons (d_var 0) (a_cons (d_var 1) (a_cons (d_give (d_slL (d_look 1) (o_none) (o_some (d_peek (c_call (ok__law_draw T) hr2 (a_cons (d_var 0) (a_cons (d_int) (a_nil)))))))) (a_cons (d_add (d_peek (d_int)) (d_peek (c_call (ok__law_draw T) hr2 (a_cons (d_var 0) (a_cons (d_int) (a_nil)))))) (a_cons (d_bl) (a_nil))))))))
      (s_cons (s_par (i := 3) (j := 4) (ka := .val (eCall m__law_again [] (aCons (eVar 2) (aNil)))) (kb := .val (eBi gRepr (aCons (ePeek 2) (aNil)))) sc__law_right.nd (k_val (c_call (ok__law_again T) hr12 (a_cons (d_var 2) (a_nil)))) (k_val (d_repr hgd (u80 hr) (T.n_repr) (p_cons (d_look 2) (p_nil)))))
      (s_cons (s_set (i := 5) sc__law_right.nd (c_make (ok_Rule___init__ T) T.c_Rule hr26 (a_cons (d_var 3) (a_nil))))
      (s_cons (s_drop (d_peek (c_call (ok__law_spoilt T) hr12 (a_cons (d_var 3) (a_nil)))))
      (s_cons (s_set (i := 6) sc__law_right.nd (c_meth0 (ok_Rule_term_c T) T.c_Rule T.k_Rule hr14 (d_var 5)))
      (s_cons (s_if (d_testC (d_peek (d_ne hr.units (d_peek (d_repr hgd (u80 hr) (T.n_repr) (p_cons (d_look 6) (p_nil)))) (d_look 4))))
      (s_one (s_ret (d_bl)))
      (s_nil))
      (s_cons (s_drop (d_peek (c_call (ok__law_spoilt T) hr12 (a_cons (d_var 6) (a_nil)))))
      (s_cons (s_if (w_pt (w_or (d_testC (d_peek (d_ne hr.units (d_peek (d_repr hgd (u80 hr) (T.n_repr) (p_cons (d_peek (c_meth0 (ok_Rule_term_c T) T.c_Rule T.k_Rule hr14 (d_var 5))) (p_nil)))) (d_look 4)))) (w_or (d_not (d_testC (d_peek (c_eq (eq_Rule T) T.c_Rule hr2 (d_var 5) (c_make (ok_Rule___init__ T) T.c_Rule hr26 (a_cons (c_call (ok__law_again T) hr12 (a_cons (d_var 2) (a_nil))) (a_nil))))))) (w_or (d_testC (d_peek (c_eq (eq_Rule T) T.c_Rule hr2 (d_var 5) (d_var 2)))) (w_or1 (d_testC (d_peek (c_eq (eq_Rule T) T.c_Rule hr2 (d_var 5) (d_var 4)))))))))
      (s_one (s_ret (d_bl)))
      (s_nil))
      (s_cons (s_if (d_testC (d_peek (d_ne hr.units (d_peek (d_give (d_lc rfl sc__law_right.nd (i_seq (c_call (ok__law_unlike T) hr15 (a_cons (d_var 0) (a_cons (d_var 2) (a_nil))))) (blkOk_by (own := [("_law_one", 7)]) (by first | (show blkC ["_law_purse_here", "_law_names_here", "_law_term_here", "_law_passed", "_law_due", "_law_rule", "_law_seen", "_law_one", "_law_odd_here", "_law_bent_here"] (defScope s__law_right) _ _ = true; decide +kernel) | kernel_rfl | rfl)) (fun _ _ _ _ _ => t_name (i := 7) sc__law_right.nd) (gok_name 7) (by decide) (fun _ _ _ _ _ => pts_oneT (w_pt (w_or (d_testC (d_peek (c_eq (eq_Rule T) T.c_Rule hr2 (d_var 5) (c_make (ok_Rule___init__ T) T.c_Rule hr26 (a_cons (d_var 7) (a_nil)))))) (w_or1 (d_not (d_testC (d_peek (c_ne (eq_Rule T) T.c_Rule hr2 (d_var 5) (c_make (ok_Rule___init__ T) T.c_Rule hr26 (a_cons (d_var 7) (a_nil))))))))))) (fun _ _ _ _ _ => d_var 7)))) (d_peek (d_give (d_lst (a_nil)))))))
      (s_one (s_ret (d_bl)))
      (s_nil))
      (s_cons (s_for PassesOwn.never rfl (i_seq (c_call (ok__law_odd T) hr1 (a_cons (d_tup (a_cons (d_str) (a_cons (d_ix (d_look 1) (d_peek (d_int))) (a_cons (d_int) (a_nil))))) (a_nil)))) (t_name (i := 8) sc__law_right.nd) (gok_name 8)
      (s_cons (s_set (i := 9) sc__law_right.nd (c_call (ok__law_bent T) hr14 (a_cons (d_var 0) (a_cons (d_var 2) (a_cons (d_var 8) (a_nil))))))
      (s_one (s_if (w_pt (w_or (d_testC (d_peek (d_neY hr.units (d_peek (c_call (ok__law_caught T) hr27 (a_cons (d_var 8) (a_nil)))) (d_peek (d_give (d_lst (a_cons (d_var 8) (a_nil)))))))) (w_or1 (d_testC (d_peek (d_neY hr.units (d_peek (c_call (ok__law_caught T) hr27 (a_cons (d_var 9) (a_nil)))) (d_peek (d_give (d_lst (a_cons (d_var 9) (a_nil)))))))))))
      (s_one (s_ret (d_bl)))
      (s_nil)))))
      (s_one (s_ret (d_isN (d_peek (c_call (ok__law_caught T) hr27 (a_cons (d_var 2) (a_nil)))) (d_peek (d_non)))))))))))))))
/-! ### Rule.term -/
noncomputable def b_Rule_term : SS := sRet (eCall m_copied [] (aCons (eFld "Rule" "form" (ePeek 0)) (aNil)))
noncomputable def m_Rule_term : FM := fnM 1 1 b_Rule_term
theorem sc_Rule_term : FnScope ["self"] ["self"] (defScope s_Rule_term) := ⟨rfl, rfl, rfl, by decide +kernel, rfl, by decide +kernel, by decide +kernel⟩
theorem ok_Rule_term (T : Txt0 P K mg C_Rule) : OkM P w K mg base 14 C_Rule "term" ["self"] m_Rule_term := by
  refine okM_mk (nm := ["self"]) T.F_Rule_term sc_Rule_term (fun _ _ _ _ _ _ us hl => match us, hl with | [_], _ => rfl) (fun f cdv A outer s H E hr => ?_)
  have hr13 : Room 13 _ := hr.mono (by decide)
  exact s_one (s_ret (c_call (ok_copied T) hr13 (a_cons (d_fld (d_look 0) T.c_Rule T.k_Rule T.a_Rule_form) (a_nil))))
/-! ### law -/
noncomputable def b_law : SS := sSeq (sFor (iSeq (eCall m__law_purses [] (aCons (eVar 0) (aCons (eC (.int 2)) (aNil))))) (asgN 1)
  (sIf (bNot (bOf (eCall m__law_right [] (aCons (eVar 1) (aNil)))))
  (sRet (eC (.bl false)))
  (sNil)))
  (sSeq (sSet 2 (eTup (aCons (eC (.str "now")) (aCons (eC (.str "zzzzzzzz")) (aCons (eNeg (eOp oPow (eC (.int 10)) (eC (.int 11)))) (aNil))))))
  (sSeq (sIf (bOf (eOwn "Rule" CS false m_Rule___eq__ (eMake "Rule" m_Rule___init__ [] (aCons (eVar 2) (aNil))) (eMake "Rule" m_Rule___init__ [] (aCons (eTup (aCons (eC (.str "now")) (aCons (eC (.str "zzzzzzzz")) (aCons (eC (.int 0)) (aNil))))) (aNil)))))
  (sRet (eC (.bl false)))
  (sNil))
  (sRet (eOp oEq (eMeth "Rule" "term" m_Rule_term [] (eMake "Rule" m_Rule___init__ [] (aCons (eTup (aCons (eC (.str "rank")) (aCons (eC (.int 2)) (aCons (eL (lDisp (aCons (eVar 2) (aCons (eVar 2) (aNil))))) (aNil))))) (aNil))) (aNil)) (eTup (aCons (eC (.str "rank")) (aCons (eC (.int 2)) (aCons (eL (lDisp (aCons (eVar 2) (aCons (eVar 2) (aNil))))) (aNil)))))))))
noncomputable def m_law : FM := fnM 1 3 b_law
theorem sc_law : FnScope ["_law_script", "_law_purse_here", "_law_part_here"] ["_law_script"] (defScope s_law) := ⟨rfl, rfl, rfl, by decide +kernel, rfl, by decide +kernel, by decide +kernel⟩
theorem fn_law {fa : Addr} (T : Txt0 P K mg C_Rule) (hfa : mg "law" = some (.ref fa)) : ∃ fd : FuncData, (∀ (s : Shared) (u : Value), BindsTo s fd ⟨[u], []⟩ [("_law_script", u)]) ∧ ∀ base : Heap, FnD P w K mg base 29 fa fd ["_law_script"] (spM ⟨mg, K⟩ m_law 1) := by
  refine fn_end (nm := ["_law_script", "_law_purse_here", "_law_part_here"]) T.F_law hfa sc_law (fun _ _ _ _ _ _ _ => rfl) (fun base f cdv A outer s H E hr hgd => ?_)
  have hr2 : Room 2 _ := hr.mono (by decide)
  have hr14 : Room 14 _ := hr.mono (by decide)
  have hr26 : Room 26 _ := hr.mono (by decide)
  have hr28 : Room 28 _ := hr.mono (by decide)
  exact s_cons (s_for PassesOwn.never rfl (i_seq (c_call (ok__law_purses T) hr2 (a_cons (d_var 0) (a_cons (d_int) (a_nil))))) (t_name (i := 1) sc_law.nd) (gok_name 1)
      (s_one (s_if (d_not (d_test (d_peek (c_callD (ok__law_right T) hr28 hgd (a_cons (d_var 1) (a_nil))))))
      (s_one (s_ret (d_bl)))
      (s_nil))))
      (s_cons (s_set (i := 2) sc_law.nd (d_tup (a_cons (d_str) (a_cons (d_str) (a_cons (d_neg (d_peek (d_pow (d_peek (d_int)) (d_peek (d_int))))) (a_nil))))))
      (s_cons (s_if (d_testC (d_peek (c_eq (eq_Rule T) T.c_Rule hr2 (c_make (ok_Rule___init__ T) T.c_Rule hr26 (a_cons (d_var 2) (a_nil))) (c_make (ok_Rule___init__ T) T.c_Rule hr26 (a_cons (d_tup (a_cons (d_str) (a_cons (d_str) (a_cons (d_int) (a_nil))))) (a_nil))))))
      (s_one (s_ret (d_bl)))
      (s_nil))
      (s_one (s_ret (d_eq hr.units (d_peek (c_meth0 (ok_Rule_term T) T.c_Rule T.k_Rule hr14 (c_make (ok_Rule___init__ T) T.c_Rule hr26 (a_cons (d_tup (a_cons (d_str) (a_cons (d_int) (a_cons (d_give (d_lst (a_cons (d_var 2) (a_cons (d_var 2) (a_nil))))) (a_nil))))) (a_nil))))) (d_peek (d_tup (a_cons (d_str) (a_cons (d_int) (a_cons (d_give (d_lst (a_cons (d_var 2) (a_cons (d_var 2) (a_nil))))) (a_nil)))))))))))
theorem end_mk {h : Heap} {fa : Addr} (X : K.In h) (G : h.Ns mainGlobals mg) (hfa : mg "law" = some (.ref fa)) (a0 : PySem.W.nsIn K mainGlobals "Rule" = some (some (.ref C_Rule))) (T : Txt0 P K mg C_Rule) :
    ∃ fd : FuncData, (∀ (s : Shared) (u : Value), BindsTo s fd ⟨[u], []⟩ [("_law_script", u)]) ∧ ∀ base : Heap, K.In base → base.Ns mainGlobals mg → FnD P w K mg base 29 fa fd ["_law_script"] (spM ⟨mg, K⟩ m_law 1) := by
  obtain ⟨fd, hb, hF⟩ := fn_law (P := P) (w := w) T hfa
  exact ⟨fd, hb, fun base _ _ => hF base⟩
end
end K02

namespace K02
open PySem L2 LW
local macro_rules | `(tactic| bv_omega) => `(tactic| (repeat (first | with_reducible first | refine z_var (by with_unfolding_all rfl) ?_ | refine z_pk (by with_unfolding_all rfl) ?_ | refine z_pkO (by with_unfolding_all rfl) ?_ | refine z_retO (by with_unfolding_all rfl) ?_ | refine z_c ?_ | refine z_op ?_ | refine z_nil ?_ | refine z_cons ?_ | refine z_tup ?_ | refine z_lst ?_ | refine z_L ?_ | refine z_bi ?_ | refine z_call ?_ | refine z_meth ?_ | refine z_prop ?_ | refine z_fld ?_ | refine z_make ?_ | refine z_not ?_ | refine z_neg ?_ | refine z_bits ?_ | refine t_of ?_ | refine t_not ?_ | refine z_slN ?_ | refine z_oN ?_ | refine z_oS ?_ | refine z_snil ?_ | refine z_seq ?_ | refine z_set ?_ | refine z_own ?_ | refine z_ret ?_ | refine z_retC ?_ | refine z_drop ?_ | refine z_frz ?_ | refine z_app ?_ | refine z_appC ?_ | refine z_putC ?_ | refine z_for ?_ | refine z_lc ?_ | refine z_yes ?_ | refine z_kv ?_ | refine z_ko ?_ | refine z_par ?_ | refine z_unp ?_ | refine z_sfld ?_ | refine z_rg1 ?_ | refine z_rg2 ?_ | refine z_rg3 ?_ | refine z_and ?_ | refine z_or ?_ | refine z_eif ?_ | refine t_and ?_ | refine t_or ?_ | refine z_sif ?_ | refine u_add ?_ | refine u_sub ?_ | refine u_lt ?_ | refine u_le ?_ | refine u_gt ?_ | refine u_ge ?_ | refine u_isN ?_ | refine u_notN ?_ | refine z_par3 ?_ | (with_reducible refine u_mul ?_ ?_; next => first | exact mulC_r (by decide) (by decide) | exact mulC_l (by decide) (by decide) | exact mulC_r (by omega) (by omega) | exact mulC_l (by omega) (by omega)) | (with_reducible refine u_mod ?_ ?_; next => first | decide | assumption | omega) | (with_reducible refine u_div ?_ ?_; next => first | exact divC_s (by decide) (by decide) | exact divC_s (by omega) (by omega)))))
def mixed (a b c : Int) : Int := ((((a * 69069 + 104729 * b * b + 7919 * c + b) % 2147483647) * ((a * 69069 + 104729 * b * b + 7919 * c + b) % 2147483647) + 40503) % 2147483629) * 48271 % 2147483587
theorem mixed_ok {a b c : Int} {st : Sto} (hb : 0 ≤ b) (hb' : b < 2 ^ 60) : m__law_mixed [.int a, .int b, .int c] st = some (.int (mixed a b c), st) := by
  refine Ok.eq (z_fn rfl ?_)
  unfold b__law_mixed
  bv_omega
  exact ⟨rfl, rfl⟩
theorem mixed_pos (a b c : Int) : 0 ≤ mixed a b c := by unfold mixed; omega
/-- a purse as a cell holds it -/
def Pu (n : Nat) (l : List D) : Prop := ∃ a b c e : Int, l = [.int a, .int b, .int c, .int e] ∧ 0 ≤ a ∧ 0 ≤ c ∧ c ≤ n
theorem Pu.mono {n m : Nat} {l : List D} (h : Pu n l) (hm : n ≤ m) : Pu m l := by
  obtain ⟨a, b, c, e, h1, h2, h3, h4⟩ := h
  exact ⟨a, b, c, e, h1, h2, h3, by omega⟩
theorem bits_le {m : Int} (h0 : 0 < m) (h : m < 2 ^ 100) : Builtin.Int.intBits m ≤ 100 := by
  unfold Builtin.Int.intBits
  have hz : ¬ (m == 0) = true := by simp; omega
  rw [if_neg hz]
  have := (Nat.log2_lt (n := m.natAbs) (k := 100) (by omega)).mpr (by omega)
  omega
theorem set_get {l l' : List D} {st : Sto} {k : Nat} (h : st[k]? = some l) : (st.set k l')[k]? = some l' := by
  rw [List.getElem?_set_self (List.getElem?_eq_some_iff.mp h).1]
theorem set_self {l : List D} {st : Sto} {k : Nat} (h : st[k]? = some l) : st.set k l = st := by
  obtain ⟨h1, rfl⟩ := List.getElem?_eq_some_iff.mp h
  exact List.set_getElem_self h1
theorem draw_ok {n k : Nat} {l : List D} {st : Sto} {m : Int} (hk : st[k]? = some l) (P : Pu n l) (hn : n < 2 ^ 50) (h0 : 0 < m) (hm : m < 2 ^ 100) :
    Ok (m__law_draw [.cell k, .int m] st) fun d s => ∃ r l', d = .int r ∧ s = st.set k l' ∧ Pu (n + 4) l' ∧ 0 ≤ r ∧ r < m := by
  obtain ⟨a, b, c, e, rfl, ha, hc, hcn⟩ := P
  refine z_fn rfl ?_
  unfold b__law_draw
  bv_omega
  refine u_ixC hk rfl ?_
  bv_omega
  refine b_dec (fun hp => ?_) (fun hp => ?_)
  · bv_omega
    refine u_ixC hk rfl ?_
    bv_omega
    refine u_ixC hk rfl ?_
    bv_omega
    refine ⟨_, 0, hk, rfl, ?_⟩
    bv_omega
    exact ⟨_, _, rfl, rfl, ⟨a / m, b, c, e, rfl, Int.ediv_nonneg ha (by omega), hc, by omega⟩, Int.emod_nonneg _ (by omega), Int.emod_lt_of_pos _ h0⟩
  · bv_omega
    have hb := bits_le h0 hm
    have hj : (1 + (Builtin.Int.intBits m : Int) / 28).toNat ≤ 4 := by omega
    refine ⟨_, rfl, inR_t (by omega) (by omega), ?_⟩
    refine (loop_inv (fun i env s => ∃ (c' f : Int) (p : Sl), env = [.val (.cell k), .val (.int m), .un, .val (.int f), p] ∧ s = st.set k [.int a, .int b, .int c', .int e] ∧ c' = c + i ∧ 0 ≤ f) _ 0 _ _
      ⟨c, 0, .un, rfl, (set_self hk).symm, by omega, by omega⟩ ?_ (fun _ _ _ => rfl)).mono ?_
    · rintro i x e0 s hx ⟨c', f, p, rfl, rfl, rfl, hf⟩
      refine ⟨rfl, _, rfl, ?_⟩
      have hi : i < 4 := by
        have := (List.getElem?_eq_some_iff.mp hx).1
        rw [rangeD_len] at this
        omega
      have hk' := set_get (l' := [.int a, .int b, .int (c + ((0 + i : Nat) : Int)), .int e]) hk
      bv_omega
      refine u_ixC hk' rfl ?_
      bv_omega
      refine ⟨_, 2, hk', rfl, ?_⟩
      rw [List.set_set]
      have hk2 : ∀ y, (st.set k ([D.int a, .int b, .int (c + ((0 + i : Nat) : Int)), .int e].set 2 (.int y)))[k]? = some [D.int a, .int b, .int y, .int e] := fun y => set_get hk
      bv_omega
      refine u_ixC (hk2 _) rfl ?_
      bv_omega
      refine u_ixC (hk2 _) rfl ?_
      bv_omega
      refine u_ixC (hk2 _) rfl ?_
      bv_omega
      refine Ok.use (mixed_ok (by omega) (by omega)) ?_
      bv_omega
      refine ⟨_, .inl rfl, _, _, _, rfl, rfl, by omega, ?_⟩
      have := mixed_pos b (c + ((0 + i : Nat) : Int) + 1) e
      omega
    · rintro o s ⟨e', rfl, c', f, p, rfl, rfl, rfl, hf⟩
      bv_omega
      refine ⟨_, _, rfl, rfl, ⟨a, b, _, e, rfl, ha, by omega, ?_⟩, Int.emod_nonneg _ (by omega), Int.emod_lt_of_pos _ h0⟩
      rw [rangeD_len]
      omega
def Pc (k n : Nat) (st : Sto) : Prop := ∃ l, st[k]? = some l ∧ Pu n l
def Keep (k : Nat) (st s : Sto) : Prop := ∀ (j : Nat) (x : List D), j ≠ k → st[j]? = some x → s[j]? = some x
theorem Keep.refl {k : Nat} {st : Sto} : Keep k st st := fun _ _ _ h => h
theorem Keep.trans {k : Nat} {a b c : Sto} (h : Keep k a b) (h' : Keep k b c) : Keep k a c := fun j x n e => h' j x n (h j x n e)
theorem Keep.app {k : Nat} {st : Sto} {ys : Sto} : Keep k st (st ++ ys) := fun j x _ e => by
  rw [List.getElem?_append_left (List.getElem?_eq_some_iff.mp e).1]
  exact e
theorem Pc.mono {k n m : Nat} {st : Sto} (h : Pc k n st) (hm : n ≤ m) : Pc k m st := by
  obtain ⟨l, e, p⟩ := h
  exact ⟨l, e, p.mono hm⟩
theorem Pc.app {k n : Nat} {st : Sto} {ys : Sto} (h : Pc k n st) : Pc k n (st ++ ys) := by
  obtain ⟨l, e, p⟩ := h
  exact ⟨l, by rw [List.getElem?_append_left (List.getElem?_eq_some_iff.mp e).1]; exact e, p⟩
theorem Pc.lt {k n : Nat} {st : Sto} (h : Pc k n st) : k < st.length := by
  obtain ⟨l, e, p⟩ := h
  exact (List.getElem?_eq_some_iff.mp e).1
theorem Keep.len {k n : Nat} {st s : Sto} (h : Keep k st s) (P : Pc k n s) : st.length ≤ s.length := by
  by_cases hl : st.length ≤ s.length
  · exact hl
  · have hk := P.lt
    have e := h (st.length - 1) st[st.length - 1] (by omega) (List.getElem?_eq_getElem _)
    have := (List.getElem?_eq_some_iff.mp e).1
    omega
theorem drawK {n k : Nat} {st : Sto} {m : Int} (P : Pc k n st) (hn : n < 2 ^ 50) (h0 : 0 < m) (hm : m < 2 ^ 100) {Q : D → Sto → Prop} (h : ∀ r s, Pc k (n + 4) s → Keep k st s → 0 ≤ r → r < m → Q (.int r) s) : Ok (m__law_draw [.cell k, .int m] st) Q := by
  obtain ⟨l, e, p⟩ := P
  refine (draw_ok e p hn h0 hm).mono ?_
  rintro d s ⟨r, l', rfl, rfl, p', h1, h2⟩
  refine h r _ ⟨l', set_get e, p'⟩ (fun j x nj ej => ?_) h1 h2
  rw [List.getElem?_set_ne (fun z => nj z.symm)]
  exact ej
theorem atI_in {xs : List D} {r : Int} (h0 : 0 ≤ r) (h1 : r < xs.length) : ∃ d, atI xs r = some d ∧ xs[r.toNat]? = some d := by
  refine ⟨xs[r.toNat]'(by omega), ?_, List.getElem?_eq_getElem _⟩
  unfold atI ixN
  rw [if_pos h0, if_pos h1]
  exact List.getElem?_eq_getElem (by omega)
theorem oneK {n k : Nat} {st : Sto} {xs : List D} (P : Pc k n st) (hn : n < 2 ^ 50) (h0 : 0 < xs.length) (hm : xs.length < 1000) {Q : D → Sto → Prop} (h : ∀ d s, Pc k (n + 4) s → Keep k st s → d ∈ xs → Q d s) : Ok (m__law_one_of [.cell k, .lst xs] st) Q := by
  refine z_fn rfl ?_
  unfold b__law_one_of
  bv_omega
  refine u_now rfl ?_
  bv_omega
  refine drawK P hn (m := (xs.length : Int)) (by omega) (by omega) fun r s P' K' h1 h2 => ?_
  obtain ⟨d, e, e'⟩ := atI_in h1 h2
  refine u_ixL e ?_
  exact h d s P' K' (List.mem_of_getElem? e')
theorem cutD_map {ns : List Int} {lo hi : Option Int} : cutD (ns.map D.int) lo hi = (cutD ns lo hi).map D.int := by
  unfold cutD
  rw [List.length_map, List.map_take, List.map_drop]
theorem gSum_cut {ns : List Int} {lo hi : Option Int} {st : Sto} : gSum [.lst (cutD (ns.map D.int) lo hi)] st = some (.int (cutD ns lo hi).sum) := by
  have e : lstI st (.lst (cutD (ns.map D.int) lo hi)) = some (cutD ns lo hi) := by
    rw [cutD_map]
    exact intsOf_map _
  unfold gSum
  dsimp only
  rw [e]
theorem purseK {st : Sto} {ns : List Int} {i : Int} {Q : D → Sto → Prop} (h : ∀ l, Pu 0 l → Q (.cell st.length) (st ++ [l])) : Ok (m__law_purse [.fro (ns.map D.int), .int i] st) Q := by
  refine z_fn rfl ?_
  unfold b__law_purse
  bv_omega
  refine u_now rfl ?_
  bv_omega
  refine u_now gSum_cut ?_
  bv_omega
  refine u_pow (by decide +kernel) ?_
  bv_omega
  refine u_now rfl ?_
  bv_omega
  refine u_pow (by decide +kernel) ?_
  bv_omega
  refine u_pow (by decide +kernel) ?_
  refine u_mod (by decide +kernel) ?_
  bv_omega
  refine ⟨by simp, ?_⟩
  refine h _ ⟨_, _, _, _, rfl, Int.emod_nonneg _ (by decide +kernel), by decide, by decide⟩
theorem pursesK {st : Sto} {ns : List Int} {Q : D → Sto → Prop} (h : ∀ (ks : List Nat) s, (∀ k ∈ ks, Pc k 0 s) → ks.Pairwise (· ≠ ·) → Q (.lst (ks.map D.cell)) s) : Ok (m__law_purses [.fro (ns.map D.int), .int 2] st) Q := by
  refine z_fn rfl ?_
  unfold b__law_purses
  bv_omega
  refine u_now rfl ?_
  bv_omega
  refine u_now rfl ?_
  bv_omega
  refine u_now rfl ?_
  bv_omega
  refine ⟨_, rfl, inR_t ?_ ?_, ?_, ?_⟩
  · split <;> split <;> omega
  · split <;> split <;> omega
  · rw [rangeD_len]
    split <;> split <;> omega
  · refine (comp_inv (fun acc s => ∃ ks : List Nat, acc = ks.map D.cell ∧ (∀ k ∈ ks, Pc k 0 s) ∧ ks.Pairwise (· ≠ ·)) _ [] _ ⟨[], rfl, (fun k hk => by cases hk), List.Pairwise.nil⟩ ?_ fun _ _ _ => rfl).mono ?_
    · rintro x hx acc s ⟨ks, rfl, hP, hw⟩
      obtain ⟨i, _, rfl⟩ := List.mem_map.mp hx
      refine ⟨_, rfl, ?_⟩
      bv_omega
      refine b_t rfl ?_
      bv_omega
      refine purseK fun l hl => ?_
      refine ⟨ks ++ [s.length], by rw [List.map_append]; rfl, fun k hk => ?_, List.pairwise_append.mpr ⟨hw, List.pairwise_singleton _ _, fun a ha b hb => ?_⟩⟩
      · rcases List.mem_append.mp hk with hk | hk
        · exact (hP k hk).app
        · cases List.mem_singleton.mp hk
          exact ⟨l, by rw [List.getElem?_append_right (Nat.le_refl _), Nat.sub_self]; rfl, hl⟩
      · cases List.mem_singleton.mp hb
        have := (hP a ha).lt
        omega
    · rintro ys s ⟨ks, e, hP, hw⟩
      cases e
      exact h ks s hP hw
end K02

namespace LW
open PySem L2
theorem chn_ok {p q : Int → Int → Bool} {fa fb fc : SE} {env : LW.Env} {st : Sto} {Q : D → Sto → Prop} (h : Ok (fa env st) fun x s1 => AsI x fun i => Ok (fb env s1) fun y s2 => AsI y fun j => p i j = true ∧ Ok (fc env s2) fun z s3 => AsI z fun k => Q (.bl (q j k)) s3) : Ok (eChn p q fa fb fc env st) Q := by
  obtain ⟨x, s1, e1, h⟩ := h
  obtain ⟨i, rfl, y, s2, e2, h⟩ := h.of
  obtain ⟨j, rfl, hp, z, s3, e3, h⟩ := h.of
  obtain ⟨k, rfl, h⟩ := h.of
  refine ⟨_, s3, ?_, h⟩
  unfold eChn
  rw [e1]
  dsimp only
  rw [e2]
  dsimp only
  rw [if_pos hp, e3]
theorem chn_no {p q : Int → Int → Bool} {fa fb fc : SE} {env : LW.Env} {st : Sto} {Q : D → Sto → Prop} (h : Ok (fa env st) fun x s1 => AsI x fun i => Ok (fb env s1) fun y s2 => AsI y fun j => p i j = false ∧ Q (.bl false) s2) : Ok (eChn p q fa fb fc env st) Q := by
  obtain ⟨x, s1, e1, h⟩ := h
  obtain ⟨i, rfl, y, s2, e2, h⟩ := h.of
  obtain ⟨j, rfl, hp, h⟩ := h.of
  refine ⟨_, s2, ?_, h⟩
  unfold eChn
  rw [e1]
  dsimp only
  rw [e2]
  dsimp only
  rw [hp, if_neg Bool.false_ne_true]
theorem mapO_some {α β : Type} {f : α → Option β} : ∀ {xs : List α}, (∀ x ∈ xs, ∃ y, f x = some y) → ∃ ys, mapO f xs = some ys ∧ ys.length = xs.length
  | [], _ => ⟨[], rfl, rfl⟩
  | x :: xs, h => by
    obtain ⟨y, e⟩ := h x (by simp)
    obtain ⟨ys, e2, l⟩ := mapO_some (xs := xs) fun z hz => h z (by simp [hz])
    refine ⟨y :: ys, ?_, by simp [l]⟩
    unfold mapO
    rw [e]
    dsimp only
    rw [e2]
theorem comp_z {α : Type} {chk : Sto → Bool} {asg : D → LW.Env → Option LW.Env} {elt : SE} {env0 : LW.Env} {st : Sto} (g h : α → D) (hc : chk st = true) : ∀ (Z : List α), (∀ z ∈ Z, ∃ e1, asg (g z) env0 = some e1 ∧ Ok (elt e1 st) fun y s => y = h z ∧ s = st) → compM chk asg bYes elt env0 (Z.map g) st = some (Z.map h, st)
  | [], _ => by
    show compM chk asg bYes elt env0 [] st = _
    unfold compM
    rw [if_pos hc]
    rfl
  | z :: Z, H => by
    obtain ⟨e1, a, k⟩ := H z (by simp)
    have ih := comp_z g h hc Z fun y hy => H y (by simp [hy])
    show compM chk asg bYes elt env0 (g z :: Z.map g) st = _
    unfold compM
    rw [if_pos hc, a]
    dsimp only
    rw [show bYes e1 st = some (true, st) from rfl]
    dsimp only
    rw [k.eq]
    dsimp only
    rw [ih]
    rfl
/-- a comprehension that lets nothing through -/
theorem comp_none {chk : Sto → Bool} {asg : D → LW.Env → Option LW.Env} {cond : SB} {elt : SE} {env0 : LW.Env} {st : Sto} (hc : chk st = true) (xs : List D) (h : ∀ x ∈ xs, ∃ e1, asg x env0 = some e1 ∧ Ok (cond e1 st) fun b s => b = false ∧ s = st) : compM chk asg cond elt env0 xs st = some ([], st) := by
  have := comp_map (elt := elt) (fun _ => false) id hc xs fun x hx => by
    obtain ⟨e1, a, k⟩ := h x hx
    exact ⟨e1, a, k.eq, fun z => by cases z⟩
  rw [this]
  simp
/-- a comprehension over all -/
theorem comp_yes {chk : Sto → Bool} {asg : D → LW.Env → Option LW.Env} {elt : SE} {env0 : LW.Env} {st : Sto} (f : D → D) (hc : chk st = true) (xs : List D) (h : ∀ x ∈ xs, ∃ e1, asg x env0 = some e1 ∧ Ok (elt e1 st) fun y s => y = f x ∧ s = st) : compM chk asg bYes elt env0 xs st = some (xs.map f, st) := by
  have := comp_z (chk := chk) (asg := asg) (elt := elt) (env0 := env0) (st := st) id f hc xs h
  rwa [List.map_id] at this
section
variable {s : Sto} {Q : D → Prop} {x y : D}
theorem u_eqNil {ps : List PyData} (hx : toPy 60 s x = some (.list ps)) (q : Q (.bl (decide (ps = [])))) : Od (oEq x (.lst []) s) Q := by
  refine u_eq hx rfl ?_
  have e : PyData.eqv (.list ps) (.list []) = decide (ps = []) := by
    cases ps with
    | nil => rfl
    | cons p ps => rfl
  rw [e]
  exact q
theorem u_neNil {ps : List PyData} (hx : toPy 60 s x = some (.list ps)) (q : Q (.bl (!decide (ps = [])))) : Od (oNe x (.lst []) s) Q := by
  refine u_ne hx rfl ?_
  have e : PyData.eqv (.list ps) (.list []) = decide (ps = []) := by
    cases ps with
    | nil => rfl
    | cons p ps => rfl
  rw [e]
  exact q
theorem eqv_int {i j : Int} : PyData.eqv (.int i) (.int j) = decide (i = j) := by
  by_cases h : i = j
  · subst h; rw [decide_eq_true rfl]; show (i == i) = true; exact beq_self_eq_true i
  · rw [decide_eq_false h]; show (i == j) = false; exact beq_eq_false_iff_ne.mpr h
theorem eqv_str {a b : Str} : PyData.eqv (.str a) (.str b) = decide (a = b) := by
  by_cases h : a = b
  · subst h; rw [decide_eq_true rfl]; show (a == a) = true; exact beq_self_eq_true a
  · rw [decide_eq_false h]; show (a == b) = false; exact beq_eq_false_iff_ne.mpr h
theorem u_eqW {a b : Str} (ha : PyData.strOk a = true) (hb : PyData.strOk b = true) (q : Q (.bl (decide (a = b)))) : Od (oEq (.str a) (.str b) s) Q := by
  refine u_eq (py_str ha) (py_str hb) ?_
  rw [eqv_str]
  exact q
theorem u_neW {a b : Str} (ha : PyData.strOk a = true) (hb : PyData.strOk b = true) (q : Q (.bl (!decide (a = b)))) : Od (oNe (.str a) (.str b) s) Q := by
  refine u_ne (py_str ha) (py_str hb) ?_
  rw [eqv_str]
  exact q
end
section
variable {chk : Sto → Bool} {asg : D → Env → Option Env} {body : SS} {env e1 : Env} {st : Sto} {x : D} {xs : List D} {Q : Out → Sto → Prop}
theorem z_loopN (c : chk st = true) (h : Q (.nx env) st) : Ok (loopM chk asg body [] env st) Q := ⟨_, st, by unfold loopM; rw [if_pos c], h⟩
theorem z_loopC (c : chk st = true) (a : asg x env = some e1) (h : Ok (body e1 st) fun o s => match o with
    | .nx e2 => Ok (loopM chk asg body xs e2 s) Q
    | .ct e2 => Ok (loopM chk asg body xs e2 s) Q
    | .bk e2 => Q (.nx e2) s
    | .rt d => Q (.rt d) s) : Ok (loopM chk asg body (x :: xs) env st) Q := by
  obtain ⟨o, s, e, h⟩ := h
  cases o with
  | nx e2 =>
    obtain ⟨o2, s2, e3, q⟩ := h
    exact ⟨o2, s2, by unfold loopM; rw [if_pos c, a]; dsimp only; rw [e]; exact e3, q⟩
  | ct e2 =>
    obtain ⟨o2, s2, e3, q⟩ := h
    exact ⟨o2, s2, by unfold loopM; rw [if_pos c, a]; dsimp only; rw [e]; exact e3, q⟩
  | bk e2 => exact ⟨_, s, by unfold loopM; rw [if_pos c, a]; dsimp only; rw [e], h⟩
  | rt d => exact ⟨_, s, by unfold loopM; rw [if_pos c, a]; dsimp only; rw [e], h⟩
end
end LW
namespace K02
open PySem L2 LW
local macro_rules | `(tactic| bv_omega) => `(tactic| (repeat (first | with_reducible first | refine z_var (by with_unfolding_all rfl) ?_ | refine z_pk (by with_unfolding_all rfl) ?_ | refine z_pkO (by with_unfolding_all rfl) ?_ | refine z_retO (by with_unfolding_all rfl) ?_ | refine z_c ?_ | refine z_op ?_ | refine z_nil ?_ | refine z_cons ?_ | refine z_tup ?_ | refine z_lst ?_ | refine z_L ?_ | refine z_bi ?_ | refine z_call ?_ | refine z_meth ?_ | refine z_prop ?_ | refine z_fld ?_ | refine z_make ?_ | refine z_not ?_ | refine z_neg ?_ | refine z_bits ?_ | refine t_of ?_ | refine t_not ?_ | refine z_slN ?_ | refine z_oN ?_ | refine z_oS ?_ | refine z_snil ?_ | refine z_seq ?_ | refine z_set ?_ | refine z_own ?_ | refine z_ret ?_ | refine z_retC ?_ | refine z_drop ?_ | refine z_frz ?_ | refine z_app ?_ | refine z_appC ?_ | refine z_putC ?_ | refine z_for ?_ | refine z_lc ?_ | refine z_yes ?_ | refine z_kv ?_ | refine z_ko ?_ | refine z_par ?_ | refine z_unp ?_ | refine z_sfld ?_ | refine z_rg1 ?_ | refine z_rg2 ?_ | refine z_rg3 ?_ | refine z_and ?_ | refine z_or ?_ | refine z_eif ?_ | refine t_and ?_ | refine t_or ?_ | refine z_sif ?_ | refine u_add ?_ | refine u_sub ?_ | refine u_lt ?_ | refine u_le ?_ | refine u_gt ?_ | refine u_ge ?_ | refine u_isN ?_ | refine u_notN ?_ | refine z_par3 ?_ | (with_reducible refine u_mul ?_ ?_; next => first | exact mulC_r (by decide) (by decide) | exact mulC_l (by decide) (by decide) | exact mulC_r (by omega) (by omega) | exact mulC_l (by omega) (by omega)) | (with_reducible refine u_mod ?_ ?_; next => first | decide | assumption | omega) | (with_reducible refine u_div ?_ ?_; next => first | exact divC_s (by decide) (by decide) | exact divC_s (by omega) (by omega)))))
abbrev letters : Str := "abcdefghijklmnopqrstuvwxyz"
/-- a name: one to eight letters -/
structure Nm (z : Str) : Prop where
  lo : 1 ≤ z.length
  hi : z.length ≤ 8
  abc : ∀ c ∈ z.cps.toList, c ∈ letters.cps.toList
theorem letter_lt : ∀ c ∈ letters.cps.toList, c < 0x110000 := by decide +kernel
theorem Nm.ok {z : Str} (h : Nm z) : PyData.strOk z = true := by
  unfold PyData.strOk
  rw [← Array.all_toList, List.all_eq_true]
  intro c hc
  exact decide_eq_true (letter_lt c (h.abc c hc))
theorem whole_ok {i : Int} {st : Sto} : m_is_whole [.int i] st = some (.bl true, st) := rfl
theorem name_ok {z : Str} {st : Sto} (h : Nm z) : m_is_name [.str z] st = some (.bl true, st) := by
  have h1 := h.lo
  have h2 := h.hi
  refine Ok.eq (z_fn rfl ?_)
  unfold b_is_name
  bv_omega
  refine u_now rfl ?_
  refine b_f rfl ?_
  bv_omega
  refine u_now (a := .int z.length) (by unfold gLen; exact if_pos (by omega)) ?_
  bv_omega
  refine b_f (decide_eq_false (by omega)) ?_
  bv_omega
  refine u_now (a := .int z.length) (by unfold gLen; exact if_pos (by omega)) ?_
  bv_omega
  refine b_f (decide_eq_false (by omega)) ?_
  bv_omega
  refine z_sgn ?_
  bv_omega
  refine ⟨z, rfl, ?_, ?_⟩
  · show (signsD z).length ≤ 1000000
    unfold signsD
    rw [List.length_map]
    have : z.cps.toList.length = z.length := Array.length_toList
    omega
  · refine Ok.use (comp_none rfl _ fun x hx => ?_) ?_
    · obtain ⟨c, hc, rfl⟩ := List.mem_map.mp hx
      refine ⟨_, rfl, ?_⟩
      bv_omega
      refine u_now (a := .bl (!decide (c ∈ letters.cps.toList))) rfl ?_
      rw [decide_eq_true (h.abc c hc)]
      exact ⟨rfl, rfl⟩
    · bv_omega
      refine ⟨by decide, ?_⟩
      refine u_eqNil (ps := []) rfl ?_
      exact ⟨rfl, rfl⟩
/-! ### terms -/
inductive IsT (pA pB : Str → Prop) : Nat → D → Prop where
  | of {d : Nat} {n : Str} {w : Int} (h : pA n) : IsT pA pB d (.tup [.str "of", .str n, .int w])
  | now {d : Nat} {n : Str} {w : Int} (h : pB n) : IsT pA pB d (.tup [.str "now", .str n, .int w])
  | node {d : Nat} {k : Str} {xs : List D} (hk : k = "first" ∨ k = "last") (h1 : 1 ≤ xs.length) (h2 : xs.length ≤ 100) (h : ∀ x ∈ xs, IsT pA pB d x) : IsT pA pB (d + 1) (.tup [.str k, .lst xs])
  | rank {d : Nat} {r : Int} {xs : List D} (h1 : 1 ≤ r) (h2 : r ≤ xs.length) (h3 : xs.length ≤ 100) (h : ∀ x ∈ xs, IsT pA pB d x) : IsT pA pB (d + 1) (.tup [.str "rank", .int r, .lst xs])
theorem IsT.up {pA pB : Str → Prop} : ∀ {d e : Nat} {x : D}, IsT pA pB d x → d ≤ e → IsT pA pB e x
  | _, _, _, .of h, _ => .of h
  | _, _, _, .now h, _ => .now h
  | _, 0, _, .node hk h1 h2 h, l => by omega
  | _, e + 1, _, .node hk h1 h2 h, l => .node hk h1 h2 fun x hx => (h x hx).up (by omega)
  | _, 0, _, .rank h1 h2 h3 h, l => by omega
  | _, e + 1, _, .rank h1 h2 h3 h, l => .rank h1 h2 h3 fun x hx => (h x hx).up (by omega)
theorem strOk_w (w : String) : PyData.strOk (w : Str) = true := strOk_of w
section
variable {pA pB : Str → Prop} (hA : ∀ n, pA n → Nm n) (hB : ∀ n, pB n → Nm n)
include hA hB in
theorem py_term {st : Sto} : ∀ (d : Nat) (x : D), IsT pA pB d x → ∀ m, ∃ p, toPy (2 * d + 2 + m) st x = some p
  | d, _, .of (n := n) (w := w) h, m => by
    refine ⟨.tuple [.str "of", .str n, .int w], ?_⟩
    rw [show 2 * d + 2 + m = (2 * d + m) + 1 + 1 by omega]
    unfold toPy
    dsimp only
    unfold mapO
    rw [py_str (strOk_w "of")]
    dsimp only
    unfold mapO
    rw [py_str (hA _ h).ok]
    rfl
  | d, _, .now (n := n) (w := w) h, m => by
    refine ⟨.tuple [.str "now", .str n, .int w], ?_⟩
    rw [show 2 * d + 2 + m = (2 * d + m) + 1 + 1 by omega]
    unfold toPy
    dsimp only
    unfold mapO
    rw [py_str (strOk_w "now")]
    dsimp only
    unfold mapO
    rw [py_str (hB _ h).ok]
    rfl
  | d + 1, _, .node (k := k) (xs := xs) hk h1 h2 h, m => by
    obtain ⟨ps, e, l⟩ := mapO_some (f := toPy (2 * d + 2 + m) st) (xs := xs) fun x hx => py_term d x (h x hx) m
    refine ⟨.tuple [.str k, .list ps], ?_⟩
    rw [show 2 * (d + 1) + 2 + m = (2 * d + 2 + m) + 1 + 1 by omega]
    unfold toPy
    dsimp only
    unfold mapO
    rw [py_str (show PyData.strOk k = true by rcases hk with rfl | rfl <;> exact strOk_w _)]
    dsimp only
    unfold mapO
    have e2 : toPy (2 * d + 2 + m + 1) st (.lst xs) = some (.list ps) := by
      unfold toPy
      dsimp only
      rw [e]
    rw [e2]
    rfl
  | d + 1, _, .rank (r := r) (xs := xs) h1 h2 h3 h, m => by
    obtain ⟨ps, e, l⟩ := mapO_some (f := toPy (2 * d + 2 + m) st) (xs := xs) fun x hx => py_term d x (h x hx) m
    refine ⟨.tuple [.str "rank", .int r, .list ps], ?_⟩
    rw [show 2 * (d + 1) + 2 + m = (2 * d + 2 + m) + 1 + 1 by omega]
    unfold toPy
    dsimp only
    unfold mapO
    rw [py_str (strOk_w "rank")]
    dsimp only
    unfold mapO
    have e1 : toPy (2 * d + 2 + m + 1) st (.int r) = some (.int r) := by unfold toPy; rfl
    rw [e1]
    dsimp only
    unfold mapO
    have e2 : toPy (2 * d + 2 + m + 1) st (.lst xs) = some (.list ps) := by
      unfold toPy
      dsimp only
      rw [e]
    rw [e2]
    rfl
include hA hB in
theorem py_terms {st : Sto} {d : Nat} {xs : List D} (hd : d ≤ 20) (h : ∀ x ∈ xs, IsT pA pB d x) : ∃ ps, toPy 60 st (.lst xs) = some (.list ps) ∧ ps.length = xs.length := by
  obtain ⟨ps, e, l⟩ := mapO_some (f := toPy 59 st) (xs := xs) fun x hx => by
    have := py_term hA hB (st := st) d x (h x hx) (57 - 2 * d)
    rwa [show 2 * d + 2 + (57 - 2 * d) = 59 by omega] at this
  refine ⟨ps, ?_, l⟩
  unfold toPy
  dsimp only
  rw [e]
theorem at_nat {xs : List D} {i : Nat} {d : D} {j : Int} (e : j = i) (h : xs[i]? = some d) : atI xs j = some d := by
  subst e
  have := (List.getElem?_eq_some_iff.mp h).1
  unfold atI ixN
  rw [if_pos (by omega), if_pos (by omega), Int.toNat_natCast]
  exact h
end
/-! ### list-like things -/
def LR (st : Sto) (y : D) (ys : List D) : Prop := y = .lst ys ∨ ∃ k, y = .cell k ∧ st[k]? = some ys
theorem LR.read {st : Sto} {y : D} {ys : List D} (h : LR st y ys) : lstR st y = some ys := by
  rcases h with rfl | ⟨k, rfl, e⟩
  · rfl
  · exact e
theorem LR.isl {st : Sto} {y : D} {ys : List D} (h : LR st y ys) : gIsi CS [y, .ty "list"] st = some (.bl true) := by
  rcases h with rfl | ⟨k, rfl, e⟩ <;> rfl
theorem z_seqLR {fe : SE} {env : LW.Env} {st : Sto} {QI : Src → Sto → Prop} (h : Ok (fe env st) fun d s => ∃ ys, LR s d ys ∧ ∀ chk : Sto → Bool, chk s = true → QI (ys, chk) s) : Ok (iSeqW fe env st) QI := by
  obtain ⟨d, s, e, ys, hl, q⟩ := h
  rcases hl with rfl | ⟨k, rfl, e2⟩
  · exact ⟨_, s, by unfold iSeqW; rw [e], q _ rfl⟩
  · exact ⟨_, s, by unfold iSeqW; rw [e]; dsimp only; rw [e2], q _ (by simpa using e2)⟩
/-- a comprehension by a filter and a map -/
theorem comp_zf {α : Type} {chk : Sto → Bool} {asg : D → LW.Env → Option LW.Env} {cond : SB} {elt : SE} {env0 : LW.Env} {st : Sto} (g h : α → D) (p : α → Bool) (hc : chk st = true) : ∀ (Z : List α), (∀ z ∈ Z, ∃ e1, asg (g z) env0 = some e1 ∧ Ok (cond e1 st) (fun b s => b = p z ∧ s = st) ∧ (p z = true → Ok (elt e1 st) fun y s => y = h z ∧ s = st)) → compM chk asg cond elt env0 (Z.map g) st = some ((Z.filter p).map h, st)
  | [], _ => by
    show compM chk asg cond elt env0 [] st = _
    unfold compM
    rw [if_pos hc]
    rfl
  | z :: Z, H => by
    obtain ⟨e1, a, c, k⟩ := H z (by simp)
    have ih := comp_zf g h p hc Z fun y hy => H y (by simp [hy])
    show compM chk asg cond elt env0 (g z :: Z.map g) st = _
    unfold compM
    rw [if_pos hc, a]
    dsimp only
    rw [c.eq]
    cases hp : p z with
    | false =>
      dsimp only
      rw [ih, List.filter_cons_of_neg (by simp [hp])]
    | true =>
      dsimp only
      rw [(k hp).eq]
      dsimp only
      rw [ih, List.filter_cons_of_pos hp]
      rfl
theorem areT {f : Nat} {st : Sto} {y : D} {ys : List D} {p : D → Bool} (hl : LR st y ys) (hn : ys ≠ []) (hz : ys.length ≤ 1000000) (h : ∀ z ∈ ys, mr_is_term f [z] st = some (.bl (p z), st)) : mr_are_terms (f + 1) [y] st = some (.bl (ys.all p), st) := by
  rw [sr_are_terms]
  refine Ok.eq (z_fn rfl ?_)
  unfold b_are_terms
  bv_omega
  refine u_now hl.isl ?_
  refine b_f rfl ?_
  bv_omega
  refine ⟨by simp, ?_⟩
  refine u_now (a := .bl false) (by
    unfold oEqN
    rw [hl.read]
    cases ys with
    | nil => exact absurd rfl hn
    | cons a b => rfl) ?_
  refine b_f rfl ?_
  bv_omega
  refine z_seqLR ?_
  bv_omega
  refine ⟨ys, hl, fun chk hc => ⟨hz, ?_⟩⟩
  have := comp_zf (chk := chk) (asg := asgN 1) (cond := bNot (bOf (eCall (mr_is_term f) [] (aCons (eVar 1) (aNil))))) (elt := eVar 1) (env0 := [.val y, .un]) (st := st) (fun d : D => d) (fun d : D => d) (fun d => !p d) hc ys fun d hd => ?_
  · rw [List.map_id', List.map_id'] at this
    refine Ok.use this ?_
    bv_omega
    refine ⟨by simp, ?_⟩
    refine u_now (a := .bl (ys.filter (fun d => !p d)).isEmpty) rfl ?_
    refine ⟨?_, rfl⟩
    congr 1
    induction ys with
    | nil => exact absurd rfl hn
    | cons a r ih =>
      clear ih
      rw [Bool.eq_iff_iff, List.isEmpty_iff, List.filter_eq_nil_iff, List.all_eq_true]
      exact ⟨fun h x hx => by simpa using h x hx, fun h x hx => by simpa using h x hx⟩
  · refine ⟨_, rfl, ?_, fun _ => ?_⟩
    · bv_omega
      refine Ok.use (h d hd) ?_
      exact ⟨rfl, rfl⟩
    · bv_omega
      exact ⟨rfl, rfl⟩
/-- a first, a last -/
theorem isT_node {f : Nat} {st : Sto} {k : Str} {y : D} {b : Bool} (hk : k = "first" ∨ k = "last") (h : mr_are_terms f [y] st = some (.bl b, st)) : mr_is_term (f + 1) [.tup [.str k, y]] st = some (.bl b, st) := by
  rw [sr_is_term]
  refine Ok.eq (z_fn rfl ?_)
  unfold b_is_term
  bv_omega
  refine u_now rfl ?_
  refine b_f rfl ?_
  bv_omega
  refine u_now rfl ?_
  bv_omega
  refine b_f rfl ?_
  bv_omega
  refine u_ixT rfl ?_
  bv_omega
  refine u_now rfl ?_
  refine b_f rfl ?_
  bv_omega
  refine u_ixT rfl ?_
  bv_omega
  refine ⟨by simp, ?_⟩
  refine u_now (a := .bl false) (by rcases hk with rfl | rfl <;> rfl) ?_
  refine b_f rfl ?_
  bv_omega
  refine u_ixT rfl ?_
  bv_omega
  refine ⟨by simp, ?_⟩
  refine u_now (a := .bl true) (by rcases hk with rfl | rfl <;> rfl) ?_
  refine b_t rfl ?_
  bv_omega
  refine u_now rfl ?_
  bv_omega
  refine u_eq rfl rfl ?_
  refine b_t rfl ?_
  bv_omega
  refine u_ixT rfl ?_
  bv_omega
  refine Ok.use h ?_
  exact ⟨rfl, rfl⟩
theorem isT_rank {f : Nat} {st : Sto} {r : Int} {y : D} {n : Nat} {b : Bool} (h : mr_are_terms f [y] st = some (.bl b, st)) (hl : b = true → gLen [y] st = some (.int n)) : mr_is_term (f + 1) [.tup [.str "rank", .int r, y]] st = some (.bl (b && (decide (1 ≤ r) && decide (r ≤ n))), st) := by
  rw [sr_is_term]
  refine Ok.eq (z_fn rfl ?_)
  unfold b_is_term
  bv_omega
  refine u_now rfl ?_
  refine b_f rfl ?_
  bv_omega
  refine u_now rfl ?_
  bv_omega
  refine b_f rfl ?_
  bv_omega
  refine u_ixT rfl ?_
  bv_omega
  refine u_now rfl ?_
  refine b_f rfl ?_
  bv_omega
  refine u_ixT rfl ?_
  bv_omega
  refine ⟨by simp, ?_⟩
  refine u_now (a := .bl false) rfl ?_
  refine b_f rfl ?_
  bv_omega
  refine u_ixT rfl ?_
  bv_omega
  refine ⟨by simp, ?_⟩
  refine u_now (a := .bl false) rfl ?_
  refine b_f rfl ?_
  bv_omega
  refine u_ixT rfl ?_
  bv_omega
  refine u_neW (strOk_w _) (strOk_w _) ?_
  refine b_f (by decide) ?_
  bv_omega
  refine u_now rfl ?_
  bv_omega
  refine u_ne rfl rfl ?_
  refine b_f rfl ?_
  bv_omega
  refine u_ixT rfl ?_
  bv_omega
  refine Ok.use whole_ok ?_
  refine b_f rfl ?_
  bv_omega
  refine u_ixT rfl ?_
  bv_omega
  refine Ok.use h ?_
  cases b with
  | false =>
    refine b_t rfl ?_
    bv_omega
    exact ⟨rfl, rfl⟩
  | true =>
    refine b_f rfl ?_
    bv_omega
    by_cases h1 : 1 ≤ r
    · refine chn_ok ?_
      bv_omega
      refine u_ixT rfl ?_
      refine ⟨decide_eq_true h1, ?_⟩
      bv_omega
      refine u_ixT rfl ?_
      bv_omega
      refine u_now (hl rfl) ?_
      refine ⟨?_, rfl⟩
      rw [decide_eq_true h1]
      rfl
    · refine chn_no ?_
      bv_omega
      refine u_ixT rfl ?_
      refine ⟨decide_eq_false h1, ?_⟩
      refine ⟨?_, rfl⟩
      rw [decide_eq_false h1]
      rfl
theorem isT_of {k n : Str} {w : Int} (hk : k = "of" ∨ k = "now") (h : Nm n) {f : Nat} {st : Sto} : mr_is_term (f + 1) [.tup [.str k, .str n, .int w]] st = some (.bl true, st) := by
  rw [sr_is_term]
  refine Ok.eq (z_fn rfl ?_)
  unfold b_is_term
  bv_omega
  refine u_now rfl ?_
  refine b_f rfl ?_
  bv_omega
  refine u_now rfl ?_
  bv_omega
  refine b_f rfl ?_
  bv_omega
  refine u_ixT rfl ?_
  bv_omega
  refine u_now rfl ?_
  refine b_f rfl ?_
  bv_omega
  refine u_ixT rfl ?_
  bv_omega
  refine ⟨by simp, ?_⟩
  refine u_now (a := .bl true) (by rcases hk with rfl | rfl <;> rfl) ?_
  refine b_t rfl ?_
  bv_omega
  refine u_now rfl ?_
  bv_omega
  refine u_eq rfl rfl ?_
  refine b_t rfl ?_
  bv_omega
  refine u_ixT rfl ?_
  bv_omega
  refine Ok.use (name_ok h) ?_
  refine b_t rfl ?_
  bv_omega
  refine u_ixT rfl ?_
  bv_omega
  refine Ok.use whole_ok ?_
  exact ⟨rfl, rfl⟩
theorem slice_last {a b : D} {st : Sto} : slT (.tup [a, b]) none (some (-1)) st = some (.tup [a]) := rfl
theorem slice_last3 {a b c : D} {st : Sto} : slT (.tup [a, b, c]) none (some (-1)) st = some (.tup [a, b]) := rfl
theorem inside_ok {xs : List D} {y : D} {st : Sto} (hx : xs.length = 2 ∨ xs.length = 3) : m_with_inside [.tup xs, y] st = some (.tup (xs.dropLast ++ [y]), st) := by
  rcases hx with hx | hx
  · obtain ⟨a, b, rfl⟩ : ∃ a b, xs = [a, b] := by
      match xs, hx with
      | [a, b], _ => exact ⟨a, b, rfl⟩
    refine Ok.eq (z_fn rfl ?_)
    unfold b_with_inside
    bv_omega
    refine u_now slice_last ?_
    bv_omega
    refine ⟨by simp, ?_⟩
    refine u_now rfl ?_
    exact ⟨rfl, rfl⟩
  · obtain ⟨a, b, c, rfl⟩ : ∃ a b c, xs = [a, b, c] := by
      match xs, hx with
      | [a, b, c], _ => exact ⟨a, b, c, rfl⟩
    refine Ok.eq (z_fn rfl ?_)
    unfold b_with_inside
    bv_omega
    refine u_now slice_last3 ?_
    bv_omega
    refine ⟨by simp, ?_⟩
    refine u_now rfl ?_
    exact ⟨rfl, rfl⟩
theorem part_of {n : Str} {w : Int} {st : Sto} : m_is_part [.tup [.str "of", .str n, .int w]] st = some (.bl true, st) := by
  refine Ok.eq (z_fn rfl ?_)
  unfold b_is_part
  bv_omega
  refine u_ixT rfl ?_
  bv_omega
  refine ⟨by simp, ?_⟩
  refine u_now (a := .bl true) rfl ?_
  exact ⟨rfl, rfl⟩
theorem part_now {n : Str} {w : Int} {st : Sto} : m_is_part [.tup [.str "now", .str n, .int w]] st = some (.bl true, st) := by
  refine Ok.eq (z_fn rfl ?_)
  unfold b_is_part
  bv_omega
  refine u_ixT rfl ?_
  bv_omega
  refine ⟨by simp, ?_⟩
  refine u_now (a := .bl true) rfl ?_
  exact ⟨rfl, rfl⟩
theorem part_no {k : Str} {xs : List D} {st : Sto} (hk : k = "first" ∨ k = "last" ∨ k = "rank") : m_is_part [.tup (.str k :: xs)] st = some (.bl false, st) := by
  refine Ok.eq (z_fn rfl ?_)
  unfold b_is_part
  bv_omega
  refine u_ixT (d := .str k) (at_nat (i := 0) rfl rfl) ?_
  bv_omega
  refine ⟨by simp, ?_⟩
  refine u_now (a := .bl false) (by rcases hk with rfl | rfl | rfl <;> rfl) ?_
  exact ⟨rfl, rfl⟩
theorem last2 {a b : D} : atI [a, b] (-1) = some b := rfl
theorem last3 {a b c : D} : atI [a, b, c] (-1) = some c := rfl
end K02

namespace K02
open PySem L2 LW
abbrev Leaf := Str × Str × Int
def leaves : Nat → D → List Leaf
  | 0 => fun _ => []
  | n + 1 => fun x => match x with
    | .tup [.str k, .str a, .int c] => [(k, a, c)]
    | .tup [.str _, .lst xs] => xs.flatMap (leaves n)
    | .tup [.str _, .int _, .lst xs] => xs.flatMap (leaves n)
    | _ => []
section
variable {pA pB : Str → Prop}
theorem leaf_ok : ∀ (d : Nat) (x : D), IsT pA pB d x → ∀ f, ∀ l ∈ leaves f x, (l.1 = "of" ∧ pA l.2.1) ∨ (l.1 = "now" ∧ pB l.2.1)
  | d, _, hx, 0, l, hl => by simp [leaves] at hl
  | d, _, .of (n := n) (w := e) hn, f + 1, l, hl => by
    rw [List.mem_singleton.mp (show l ∈ [(("of" : Str), n, e)] from hl)]
    exact .inl ⟨rfl, hn⟩
  | d, _, .now (n := n) (w := e) hn, f + 1, l, hl => by
    rw [List.mem_singleton.mp (show l ∈ [(("now" : Str), n, e)] from hl)]
    exact .inr ⟨rfl, hn⟩
  | d + 1, _, .node (k := k) (xs := xs) hk h1 h2 hx, f + 1, l, hl => by
    obtain ⟨y, hy, hl⟩ := List.mem_flatMap.mp (show l ∈ xs.flatMap (leaves f) from hl)
    exact leaf_ok d y (hx y hy) f l hl
  | d + 1, _, .rank (r := r) (xs := xs) h1 h2 h3 hx, f + 1, l, hl => by
    obtain ⟨y, hy, hl⟩ := List.mem_flatMap.mp (show l ∈ xs.flatMap (leaves f) from hl)
    exact leaf_ok d y (hx y hy) f l hl
theorem IsT.imp {qA qB : Str → Prop} (a : ∀ n, pA n → qA n) (b : ∀ n, pB n → qB n) : ∀ {d : Nat} {x : D}, IsT pA pB d x → IsT qA qB d x
  | _, _, .of h => .of (a _ h)
  | _, _, .now h => .now (b _ h)
  | _, _, .node hk h1 h2 h => .node hk h1 h2 fun x hx => (h x hx).imp a b
  | _, _, .rank h1 h2 h3 h => .rank h1 h2 h3 fun x hx => (h x hx).imp a b
/-- a term by the names that stand in it -/
theorem IsT.own : ∀ (d : Nat) (x : D), IsT pA pB d x → ∀ f, d + 1 ≤ f → IsT (fun n => ∃ l ∈ leaves f x, l.1 = "of" ∧ l.2.1 = n) (fun n => ∃ l ∈ leaves f x, l.1 = "now" ∧ l.2.1 = n) d x
  | d, _, hx, 0, hf => by omega
  | d, _, .of (n := n) (w := e) hn, f + 1, hf => .of ⟨("of", n, e), by simp [leaves], rfl, rfl⟩
  | d, _, .now (n := n) (w := e) hn, f + 1, hf => .now ⟨("now", n, e), by simp [leaves], rfl, rfl⟩
  | d + 1, _, .node (k := k) (xs := xs) hk h1 h2 hx, f + 1, hf => .node hk h1 h2 fun y hy => (IsT.own d y (hx y hy) f (by omega)).imp (fun n ⟨l, hl, q⟩ => ⟨l, List.mem_flatMap.mpr ⟨y, hy, hl⟩, q⟩) fun n ⟨l, hl, q⟩ => ⟨l, List.mem_flatMap.mpr ⟨y, hy, hl⟩, q⟩
  | d + 1, _, .rank (r := r) (xs := xs) h1 h2 h3 hx, f + 1, hf => .rank h1 h2 h3 fun y hy => (IsT.own d y (hx y hy) f (by omega)).imp (fun n ⟨l, hl, q⟩ => ⟨l, List.mem_flatMap.mpr ⟨y, hy, hl⟩, q⟩) fun n ⟨l, hl, q⟩ => ⟨l, List.mem_flatMap.mpr ⟨y, hy, hl⟩, q⟩
end
abbrev lfD (l : Leaf) : D := .tup [.str l.1, .str l.2.1, .int l.2.2]
theorem u_addL {s : Sto} {x y : D} {xs ys : List D} {Q : D → Prop} (hx : lstM s x = some xs) (hy : lstM s y = some ys) (hl : xs.length + ys.length ≤ 1000000) (q : Q (.lst (xs ++ ys))) : Od (oAdd x y s) Q := by
  refine ⟨_, ?_, q⟩
  have e : asL oCat x y s = some (.lst (xs ++ ys)) := by
    unfold asL oCat
    rw [hx, hy]
    dsimp only
    rw [if_pos hl]
  have e1 : oAdd x y s = (orO (asL oCat) oCatT) x y s := by
    cases x with
    | lst _ => rfl
    | cell _ => rfl
    | _ => cases hx
  rw [e1]
  unfold orO
  rw [e]
theorem u_addT {s : Sto} {xs ys : List D} {Q : D → Prop} (hl : xs.length + ys.length ≤ 1000000) (q : Q (.tup (xs ++ ys))) : Od (oAdd (.tup xs) (.tup ys) s) Q := by
  refine u_now ?_ q
  show oCatT (.tup xs) (.tup ys) s = _
  unfold oCatT
  exact if_pos hl
end K02

namespace K02
open PySem L2 LW
abbrev ruD (x : D) : D := .obj "Rule" ["form"] [x]
theorem nmI : ∀ n : Str, Nm n → Nm n := fun _ h => h
theorem form_ok {x : D} : fldD "form" ["form"] [x] = some x := rfl
theorem py_strs {n : Nat} {s : Sto} : ∀ {zs : List Str}, (∀ z ∈ zs, PyData.strOk z = true) → mapO (toPy (n + 1) s) (zs.map D.str) = some (zs.map PyData.str)
  | [], _ => rfl
  | z :: zs, h => by
    rw [List.map_cons]
    unfold mapO
    rw [py_str (h z (by simp))]
    dsimp only
    rw [py_strs fun y hy => h y (by simp [hy])]
    rfl
theorem py_lstS {s : Sto} {zs : List Str} (h : ∀ z ∈ zs, PyData.strOk z = true) {n : Nat} : toPy (n + 2) s (.lst (zs.map D.str)) = some (.list (zs.map PyData.str)) := by
  unfold toPy
  dsimp only
  rw [py_strs h]
end K02

namespace LW
open PySem L2
theorem z_put {env : LW.Env} {st : Sto} {fe fj : SE} {i : Nat} {QS : Out → Sto → Prop} (h : Ok (fe env st) fun d s1 => Ok (fj env s1) fun j s2 => AsI j fun j => ∃ xs n, env[i]? = some (.own xs) ∧ ixN xs.length j = some n ∧ QS (.nx (env.set i (.own (xs.set n d)))) s2) : Ok (sPut i fj fe env st) QS := by
  obtain ⟨d, s1, e1, o, s2, e2, h⟩ := h
  obtain ⟨j, rfl, xs, n, e3, e4, q⟩ := h.of
  exact ⟨_, s2, by unfold sPut; rw [e1]; dsimp only; rw [e2]; dsimp only; rw [e3]; dsimp only; rw [e4], q⟩
theorem z_compN {chk : Sto → Bool} {asg : D → LW.Env → Option LW.Env} {cond : SB} {elt : SE} {env0 : LW.Env} {st : Sto} {Q : List D → Sto → Prop} (c : chk st = true) (h : Q [] st) : Ok (compM chk asg cond elt env0 [] st) Q := ⟨_, st, by unfold compM; rw [if_pos c], h⟩
theorem z_compY {chk : Sto → Bool} {asg : D → LW.Env → Option LW.Env} {elt : SE} {env0 e1 : LW.Env} {st : Sto} {x : D} {xs : List D} {Q : List D → Sto → Prop} (c : chk st = true) (a : asg x env0 = some e1) (h : Ok (elt e1 st) fun y s2 => Ok (compM chk asg bYes elt env0 xs s2) fun ys s3 => Q (y :: ys) s3) : Ok (compM chk asg bYes elt env0 (x :: xs) st) Q := by
  obtain ⟨y, s2, e2, ys, s3, e3, q⟩ := h
  refine ⟨_, s3, ?_, q⟩
  unfold compM
  rw [if_pos c, a]
  dsimp only
  rw [show bYes e1 st = some (true, st) from rfl]
  dsimp only
  rw [e2]
  dsimp only
  rw [e3]
theorem u_addS {s : Sto} {a b : Str} {Q : D → Prop} (hl : a.length + b.length ≤ 1000000) (q : Q (.str (a ++ b))) : Od (oAdd (.str a) (.str b) s) Q := by
  refine u_now ?_ q
  have e : oCatS (.str a) (.str b) s = some (.str (a ++ b)) := by unfold oCatS; exact if_pos hl
  show orO oCatS _ _ _ _ = _
  unfold orO
  rw [e]
end LW
namespace K02
open PySem L2 LW
local macro_rules | `(tactic| bv_omega) => `(tactic| (repeat (first | with_reducible first | refine z_var (by with_unfolding_all rfl) ?_ | refine z_pk (by with_unfolding_all rfl) ?_ | refine z_pkO (by with_unfolding_all rfl) ?_ | refine z_retO (by with_unfolding_all rfl) ?_ | refine z_c ?_ | refine z_op ?_ | refine z_nil ?_ | refine z_cons ?_ | refine z_tup ?_ | refine z_lst ?_ | refine z_L ?_ | refine z_bi ?_ | refine z_call ?_ | refine z_meth ?_ | refine z_prop ?_ | refine z_fld ?_ | refine z_make ?_ | refine z_not ?_ | refine z_neg ?_ | refine z_bits ?_ | refine t_of ?_ | refine t_not ?_ | refine z_slN ?_ | refine z_oN ?_ | refine z_oS ?_ | refine z_snil ?_ | refine z_seq ?_ | refine z_set ?_ | refine z_own ?_ | refine z_ret ?_ | refine z_retC ?_ | refine z_drop ?_ | refine z_frz ?_ | refine z_app ?_ | refine z_appC ?_ | refine z_putC ?_ | refine z_for ?_ | refine z_lc ?_ | refine z_yes ?_ | refine z_kv ?_ | refine z_ko ?_ | refine z_par ?_ | refine z_unp ?_ | refine z_sfld ?_ | refine z_rg1 ?_ | refine z_rg2 ?_ | refine z_rg3 ?_ | refine z_and ?_ | refine z_or ?_ | refine z_eif ?_ | refine t_and ?_ | refine t_or ?_ | refine z_sif ?_ | refine u_add ?_ | refine u_sub ?_ | refine u_lt ?_ | refine u_le ?_ | refine u_gt ?_ | refine u_ge ?_ | refine u_isN ?_ | refine u_notN ?_ | refine z_par3 ?_ | (with_reducible refine u_mul ?_ ?_; next => first | exact mulC_r (by decide) (by decide) | exact mulC_l (by decide) (by decide) | exact mulC_r (by omega) (by omega) | exact mulC_l (by omega) (by omega)) | (with_reducible refine u_mod ?_ ?_; next => first | decide | assumption | omega) | (with_reducible refine u_div ?_ ?_; next => first | exact divC_s (by decide) (by decide) | exact divC_s (by omega) (by omega)))))
theorem ix_nat {n i : Nat} {j : Int} (e : j = i) (h : i < n) : ixN n j = some i := by
  subst e
  unfold ixN
  rw [if_pos (by omega), if_pos (by omega), Int.toNat_natCast]
/-! ### words -/
theorem letters_len : letters.cps.toList.length = 26 := by decide +kernel
theorem ix_letter {r : Int} {s : Sto} (h0 : 0 ≤ r) (h1 : r < 26) : ∃ ch, ch ∈ letters.cps.toList ∧ oIx (.str letters) (.int r) s = some (.str ⟨#[ch]⟩) := by
  have hl : r.toNat < letters.cps.toList.length := by rw [letters_len]; omega
  refine ⟨letters.cps.toList[r.toNat], List.getElem_mem hl, ?_⟩
  have e : atI letters.cps.toList r = some letters.cps.toList[r.toNat] := by
    unfold atI
    rw [ix_nat (i := r.toNat) (by omega) hl]
    exact List.getElem?_eq_getElem hl
  show (if letters.length ≤ 1000000 then (match atI letters.cps.toList r with | some ch => some (D.str ⟨#[ch]⟩) | none => none) else none) = _
  rw [if_pos (by decide +kernel), e]
structure Wo (i : Nat) (z : Str) : Prop where
  len : z.length = i
  abc : ∀ c ∈ z.cps.toList, c ∈ letters.cps.toList
theorem Wo.snoc {i : Nat} {z : Str} {ch : Nat} (h : Wo i z) (hc : ch ∈ letters.cps.toList) : Wo (i + 1) (z ++ ⟨#[ch]⟩) where
  len := by
    have := h.len
    show (z.cps ++ #[ch]).size = _
    rw [Array.size_append]
    show z.cps.size + 1 = _
    have : z.cps.size = i := this
    omega
  abc := fun c hm => by
    have : c ∈ (z.cps ++ #[ch]).toList := hm
    rw [Array.toList_append] at this
    rcases List.mem_append.mp this with q | q
    · exact h.abc c q
    · rw [List.mem_singleton.mp q]; exact hc
theorem wordK {n k : Nat} {st : Sto} (P : Pc k n st) (hn : n < 2 ^ 45) {Q : D → Sto → Prop} (h : ∀ z s, Pc k (n + 40) s → Keep k st s → Nm z → Q (.str z) s) : Ok (m__law_word [.cell k] st) Q := by
  refine z_fn rfl ?_
  unfold b__law_word
  bv_omega
  refine drawK P (by omega) (m := 8) (by decide) (by decide) fun r s1 P1 K1 r0 r1 => ?_
  bv_omega
  refine ⟨_, rfl, inR_t (by omega) (by omega), ?_⟩
  refine (loop_inv (fun i env s => ∃ z p2, env = [.val (.cell k), .val (.str z), p2] ∧ Wo i z ∧ Pc k (n + 4 + 4 * i) s ∧ Keep k st s) _ 0 _ _ ⟨"", _, rfl, ⟨rfl, fun c hc => by cases hc⟩, P1, K1⟩ ?_ (fun _ _ _ => rfl)).mono ?_
  · rintro i x e s hx ⟨z, p2, rfl, W, P2, K2⟩
    have hi : i < 8 := by
      have := (List.getElem?_eq_some_iff.mp hx).1
      rw [rangeD_len] at this
      omega
    have wl := W.len
    rw [Nat.zero_add] at P2 wl W
    refine ⟨rfl, _, rfl, ?_⟩
    bv_omega
    refine drawK P2 (by omega) (m := 26) (by decide) (by decide) fun r2 s2 P3 K3 q0 q1 => ?_
    obtain ⟨ch, hc, ec⟩ := ix_letter (s := s2) q0 q1
    refine u_now ec ?_
    refine u_addS (by show z.length + 1 ≤ _; omega) ?_
    refine ⟨_, .inl rfl, _, _, rfl, ?_, ?_, K2.trans K3⟩
    · rw [Nat.zero_add]; exact W.snoc hc
    · rw [Nat.zero_add]; exact P3.mono (by omega)
  · rintro o s ⟨e, rfl, z, p2, rfl, W, P2, K2⟩
    rw [rangeD_len, Nat.zero_add] at P2 W
    have wl := W.len
    bv_omega
    exact h z s (P2.mono (by omega)) K2 ⟨by omega, by omega, W.abc⟩
/-! ### shuffled -/
theorem shuffleK {n k : Nat} {st : Sto} {zs : List Str} (P : Pc k n st) (hn : n < 2 ^ 45) (hl : zs.length < 100) {Q : D → Sto → Prop} (h : ∀ (ys : List Str) s, Pc k (n + 400) s → Keep k st s → ys.Perm zs → Q (.lst (ys.map D.str)) s) : Ok (m__law_shuffled [.cell k, .lst (zs.map D.str)] st) Q := by
  refine z_fn rfl ?_
  unfold b__law_shuffled
  bv_omega
  refine ⟨by simp, ?_⟩
  bv_omega
  refine z_seqI ?_
  bv_omega
  refine ⟨_, .inl rfl, ?_⟩
  refine (loop_inv (fun i env s => ∃ (ys : List Str) (p3 : Sl), env = [.val (.cell k), .val (.lst (zs.map D.str)), .own (ys.map D.str), p3] ∧ ys.Perm (zs.take i) ∧ Pc k (n + 4 * i) s ∧ Keep k st s) _ 0 _ _ ⟨[], _, rfl, List.Perm.refl _, P, Keep.refl⟩ ?_ (fun _ _ _ => rfl)).mono ?_
  · rintro i x e s hx ⟨ys, p3, rfl, pm, P2, K2⟩
    rw [Nat.zero_add] at P2 pm
    rw [List.getElem?_map] at hx
    obtain ⟨z, hz, rfl⟩ := Option.map_eq_some_iff.mp hx
    have hi : i < zs.length := (List.getElem?_eq_some_iff.mp hz).1
    have yl : ys.length = i := by rw [pm.length_eq, List.length_take]; omega
    refine ⟨rfl, _, rfl, ?_⟩
    refine z_ins ?_
    bv_omega
    refine u_now rfl ?_
    bv_omega
    rw [List.length_map]
    refine drawK P2 (by omega) (m := (ys.length : Int) + 1) (by omega) (by omega) fun r s2 P3 K3 q0 q1 => ?_
    bv_omega
    refine ⟨_, rfl, ⟨by rw [List.length_map]; omega, q0, by omega⟩, ?_⟩
    refine ⟨_, .inl rfl, ys.take r.toNat ++ [z] ++ ys.drop r.toNat, .val (.str z), ?_, ?_, ?_, K2.trans K3⟩
    · rw [List.map_append, List.map_append, List.map_take, List.map_drop]
      rfl
    · rw [Nat.zero_add, List.take_add_one, hz]
      have p1 : (ys.take r.toNat ++ [z] ++ ys.drop r.toNat).Perm (ys ++ [z]) := by
        have : (ys.take r.toNat ++ [z] ++ ys.drop r.toNat).Perm (ys.take r.toNat ++ ys.drop r.toNat ++ [z]) := by
          rw [List.append_assoc, List.append_assoc]
          exact List.Perm.append_left _ List.perm_append_comm
        rwa [List.take_append_drop] at this
      exact p1.trans (pm.append_right _)
    · rw [Nat.zero_add]; exact P3.mono (by omega)
  · rintro o s ⟨e, rfl, ys, p3, rfl, pm, P2, K2⟩
    rw [List.length_map, Nat.zero_add] at P2 pm
    rw [List.take_length] at pm
    bv_omega
    exact h ys s (P2.mono (by omega)) K2 pm
/-! ### names -/
abbrev eight : List Str := ["ann", "a", "ab", "b", "first", "of", "end", "zzzzzzzz"]
theorem eight_nm : ∀ z ∈ eight, Nm z := by
  intro z hz
  have : (1 ≤ z.length ∧ z.length ≤ 8) ∧ ∀ c ∈ z.cps.toList, c ∈ letters.cps.toList := by
    revert z
    decide +kernel
  exact ⟨this.1.1, this.1.2, this.2⟩
theorem eight_nd : eight.Nodup := by decide +kernel
theorem cutD_strs {zs : List Str} {lo hi : Option Int} : cutD (zs.map D.str) lo hi = (cutD zs lo hi).map D.str := by
  unfold cutD
  rw [List.length_map, List.map_take, List.map_drop]
theorem cut_take {α : Type} {zs : List α} {m : Nat} : cutD zs none (some (m : Int)) = zs.take m := by
  unfold cutD
  rw [HT.sIx_nat]
  show List.take (min m zs.length - 0) (List.drop 0 zs) = _
  rw [List.drop_zero, Nat.sub_zero]
  by_cases h : m ≤ zs.length
  · rw [Nat.min_eq_left h]
  · rw [Nat.min_eq_right (by omega), List.take_of_length_le (Nat.le_refl _), List.take_of_length_le (by omega)]
structure Nms (A : List Str) : Prop where
  nm : ∀ z ∈ A, Nm z
  nd : A.Nodup
  lo : 1 ≤ A.length
  hi : A.length ≤ 8
theorem any_str {p : Str} : ∀ (l : List Str), ((l.map PyData.str).any fun z => PyData.eqv z (.str p)) = decide (p ∈ l)
  | [] => rfl
  | q :: l => by
    rw [List.map_cons, List.any_cons, any_str l, eqv_str]
    by_cases e : q = p
    · subst e; simp
    · have e2 : ¬ p = q := fun z => e z.symm
      simp [e, e2]
theorem u_ninS {s : Sto} {p : Str} {l : List Str} {Q : D → Prop} (hp : PyData.strOk p = true) (hl : ∀ q ∈ l, PyData.strOk q = true) (q : Q (.bl (!decide (p ∈ l)))) : Od (oInL true (.str p) (.lst (l.map D.str)) s) Q := by
  refine u_now ?_ q
  unfold oInL
  rw [py_str hp, py_lstS hl]
  dsimp only
  rw [any_str, if_pos rfl]
theorem namesK {n k m : Nat} {st : Sto} (P : Pc k n st) (hn : n < 2 ^ 44) (h1 : 1 ≤ m) (hm : m ≤ 8) {Q : D → Sto → Prop} (h : ∀ (A : List Str) s, Pc k (n + 500) s → Keep k st s → Nms A → A.length = m → Q (.lst (A.map D.str)) s) : Ok (m__law_names [.cell k, .int m] st) Q := by
  refine z_fn rfl ?_
  unfold b__law_names
  bv_omega
  refine ⟨by simp, ?_⟩
  bv_omega
  refine wordK P (by omega) fun z s1 P1 K1 hz => ?_
  bv_omega
  refine ⟨by simp, _, _, rfl, rfl, ?_⟩
  bv_omega
  refine z_seqI ?_
  bv_omega
  refine ⟨by simp, _, .inl rfl, by simp, ?_⟩
  refine Ok.use (comp_zf D.str D.str (fun q => !decide (q ∈ eight)) rfl [z] fun q hq => ?_) ?_
  · rw [List.mem_singleton.mp hq]
    refine ⟨_, rfl, ?_, fun _ => ?_⟩
    · bv_omega
      refine u_ninS (l := eight) hz.ok (fun y hy => (eight_nm y hy).ok) ?_
      exact ⟨rfl, rfl⟩
    · bv_omega
      exact ⟨rfl, rfl⟩
  · bv_omega
    have fl := List.length_filter_le (fun q => !decide (q ∈ eight)) [z]
    rw [List.length_singleton] at fl
    refine u_addL (xs := eight.map D.str) rfl rfl (by rw [List.length_map, List.length_map]; show 8 + _ ≤ _; omega) ?_
    rw [← List.map_append]
    bv_omega
    refine shuffleK (zs := eight ++ [z].filter fun q => !decide (q ∈ eight)) P1 (by omega) (by rw [List.length_append]; show 8 + _ < _; omega) fun ys s2 P2 K2 pm => ?_
    bv_omega
    refine u_now (a := (ys.take m).map D.str) ?_ ?_
    · unfold slL
      show some (cutD (ys.map D.str) none (some (m : Int))) = _
      rw [cutD_strs, cut_take]
    · have nd : (eight ++ [z].filter fun q => !decide (q ∈ eight)).Nodup := by
        refine List.nodup_append.mpr ⟨eight_nd, (show [z].Nodup by simp).filter _, fun a ha b hb e => ?_⟩
        subst e
        have := (List.mem_filter.mp hb).2
        rw [decide_eq_true ha] at this
        cases this
      have yl : 8 ≤ ys.length := by rw [pm.length_eq, List.length_append]; show 8 ≤ 8 + _; omega
      refine h (ys.take m) s2 (P2.mono (by omega)) (K1.trans K2) ⟨fun y hy => ?_, (pm.nodup_iff.mpr nd).sublist (List.take_sublist _ _), by rw [List.length_take]; omega, by rw [List.length_take]; omega⟩ (by rw [List.length_take]; omega)
      have hy' := pm.mem_iff.mp (List.mem_of_mem_take hy)
      rcases List.mem_append.mp hy' with q | q
      · exact eight_nm y q
      · rw [List.mem_singleton.mp (List.mem_filter.mp q).1]; exact hz
end K02

namespace K02
open PySem L2 LW
local macro_rules | `(tactic| bv_omega) => `(tactic| (repeat (first | with_reducible first | refine z_var (by with_unfolding_all rfl) ?_ | refine z_pk (by with_unfolding_all rfl) ?_ | refine z_pkO (by with_unfolding_all rfl) ?_ | refine z_retO (by with_unfolding_all rfl) ?_ | refine z_c ?_ | refine z_op ?_ | refine z_nil ?_ | refine z_cons ?_ | refine z_tup ?_ | refine z_lst ?_ | refine z_L ?_ | refine z_bi ?_ | refine z_call ?_ | refine z_meth ?_ | refine z_prop ?_ | refine z_fld ?_ | refine z_make ?_ | refine z_not ?_ | refine z_neg ?_ | refine z_bits ?_ | refine t_of ?_ | refine t_not ?_ | refine z_slN ?_ | refine z_oN ?_ | refine z_oS ?_ | refine z_snil ?_ | refine z_seq ?_ | refine z_set ?_ | refine z_own ?_ | refine z_ret ?_ | refine z_retC ?_ | refine z_drop ?_ | refine z_frz ?_ | refine z_app ?_ | refine z_appC ?_ | refine z_putC ?_ | refine z_for ?_ | refine z_lc ?_ | refine z_yes ?_ | refine z_kv ?_ | refine z_ko ?_ | refine z_par ?_ | refine z_unp ?_ | refine z_sfld ?_ | refine z_rg1 ?_ | refine z_rg2 ?_ | refine z_rg3 ?_ | refine z_and ?_ | refine z_or ?_ | refine z_eif ?_ | refine t_and ?_ | refine t_or ?_ | refine z_sif ?_ | refine u_add ?_ | refine u_sub ?_ | refine u_lt ?_ | refine u_le ?_ | refine u_gt ?_ | refine u_ge ?_ | refine u_isN ?_ | refine u_notN ?_ | refine z_par3 ?_ | (with_reducible refine u_mul ?_ ?_; next => first | exact mulC_r (by decide) (by decide) | exact mulC_l (by decide) (by decide) | exact mulC_r (by omega) (by omega) | exact mulC_l (by omega) (by omega)) | (with_reducible refine u_mod ?_ ?_; next => first | decide | assumption | omega) | (with_reducible refine u_div ?_ ?_; next => first | exact divC_s (by decide) (by decide) | exact divC_s (by omega) (by omega)))))
/-! ### waits -/
theorem smallK {n k : Nat} {st : Sto} (P : Pc k n st) (hn : n < 2 ^ 45) {Q : D → Sto → Prop} (h : ∀ (c : Int) s, Pc k (n + 40) s → Keep k st s → c.natAbs < 10 ^ 12 → Q (.int c) s) : Ok (m__law_small_wait [.cell k] st) Q := by
  refine z_fn rfl ?_
  unfold b__law_small_wait
  bv_omega
  refine drawK P (by omega) (m := 4) (by decide) (by decide) fun r s1 P1 K1 r0 r1 => ?_
  bv_omega
  refine drawK P1 (by omega) (m := 2) (by decide) (by decide) fun r2 s2 P2 K2 q0 q1 => ?_
  bv_omega
  exact h _ s2 (P2.mono (by omega)) (K1.trans K2) (by omega)
theorem cut_mem {α : Type} {xs : List α} {lo hi : Option Int} {x : α} (h : x ∈ cutD xs lo hi) : x ∈ xs := by
  unfold cutD at h
  exact List.mem_of_mem_drop (List.mem_of_mem_take h)
theorem waitK {n k : Nat} {st : Sto} (P : Pc k n st) (hn : n < 2 ^ 45) {Q : D → Sto → Prop} (h : ∀ (c : Int) s, Pc k (n + 40) s → Keep k st s → c.natAbs < 10 ^ 12 → Q (.int c) s) : Ok (m__law_wait [.cell k] st) Q := by
  refine z_fn rfl ?_
  unfold b__law_wait
  bv_omega
  refine drawK P (by omega) (m := 19) (by decide) (by decide) fun r s1 P1 K1 r0 r1 => ?_
  bv_omega
  refine ⟨by simp, ?_⟩
  bv_omega
  refine u_pow (by decide +kernel) ?_
  bv_omega
  refine drawK P1 (by omega) (m := 10 ^ (9 : Int).toNat) (by decide +kernel) (by decide +kernel) fun r2 s2 P2 K2 q0 q1 => ?_
  have q1 : r2 < 10 ^ 9 := q1
  bv_omega
  refine u_pow (by decide +kernel) ?_
  bv_omega
  refine u_pow (by decide +kernel) ?_
  bv_omega
  refine drawK P2 (by omega) (m := 9) (by decide) (by decide) fun r3 s3 P3 K3 t0 t1 => ?_
  bv_omega
  refine ⟨by simp, ?_⟩
  refine u_addL rfl rfl (by simp) ?_
  bv_omega
  refine drawK P3 (by omega) (m := 4) (by decide) (by decide) fun r4 s4 P4 K4 v0 v1 => ?_
  bv_omega
  obtain ⟨ws, ew, hw⟩ : ∃ ws : List Int, ([D.int 0, .int 0, .int 1, .int 2, .int 3, .int (-1), .int (-2), .int (r - 9)] ++ [.int (r2 - 10 ^ (8 : Int).toNat), .int (10 ^ (11 : Int).toNat + r3)]) = ws.map D.int ∧ ∀ c ∈ ws, c.natAbs < 10 ^ 12 := by
    refine ⟨[0, 0, 1, 2, 3, -1, -2, r - 9, r2 - 10 ^ 8, 10 ^ 11 + r3], rfl, fun c hc => ?_⟩
    simp only [List.mem_cons, List.not_mem_nil, or_false] at hc
    rcases hc with rfl | rfl | rfl | rfl | rfl | rfl | rfl | rfl | rfl | rfl <;> omega
  have el : ws.length = 10 := by
    have := congrArg List.length ew
    rw [List.length_map] at this
    exact this.symm
  rw [ew]
  refine u_now (a := cutD (ws.map D.int) none (some (7 + r4))) rfl ?_
  bv_omega
  have lc : (cutD ws none (some (7 + r4))).length = 7 + r4.toNat := by
    rw [show (7 + r4 : Int) = ((7 + r4.toNat : Nat) : Int) by omega, cut_take, List.length_take]
    omega
  rw [cutD_map]
  refine oneK P4 (by omega) (by rw [List.length_map, lc]; omega) (by rw [List.length_map, lc]; omega) fun d s5 P5 K5 hd => ?_
  obtain ⟨c, hc, rfl⟩ := List.mem_map.mp hd
  exact h c s5 (P5.mono (by omega)) ((((K1.trans K2).trans K3).trans K4).trans K5) (hw c (cut_mem hc))
/-! ### parts -/
/-- what is drawn: of names of A, and of B in this round; at most s parts -/
structure Dr (A B : List Str) (d s : Nat) (x : D) : Prop where
  t : IsT (· ∈ A) (· ∈ B) d x
  sz : ∀ f, (leaves f x).length ≤ s
  wt : ∀ f, ∀ l ∈ leaves f x, l.2.2.natAbs < 10 ^ 12
theorem dr_leaf {A B : List Str} {n : Str} {c : Int} {k : Str} (hk : (k = "of" ∧ n ∈ A) ∨ (k = "now" ∧ n ∈ B)) (hc : c.natAbs < 10 ^ 12) : Dr A B 0 1 (.tup [.str k, .str n, .int c]) where
  t := by
    rcases hk with ⟨rfl, h⟩ | ⟨rfl, h⟩
    · exact .of h
    · exact .now h
  sz := fun f => by
    cases f with
    | zero => simp [leaves]
    | succ f => exact Nat.le_refl 1
  wt := fun f l hl => by
    cases f with
    | zero => simp [leaves] at hl
    | succ f =>
      rw [List.mem_singleton.mp (show l ∈ [(k, n, c)] from hl)]
      exact hc
theorem neNil {s : Sto} {B : List Str} {Q : D → Prop} (hB : ∀ z ∈ B, Nm z) (q : Q (.bl (!decide (B = [])))) : Od (oNe (.lst (B.map D.str)) (.lst []) s) Q := by
  refine u_neNil (py_lstS fun z hz => (hB z hz).ok) ?_
  rw [show decide (B.map PyData.str = []) = decide (B = []) from decide_eq_decide.mpr List.map_eq_nil_iff]
  exact q
theorem partK {n k : Nat} {st : Sto} {A B : List Str} {sm : Bool} (P : Pc k n st) (hn : n < 2 ^ 44) (hA : Nms A) (hB : ∀ z ∈ B, Nm z) (lB : B.length ≤ 8) {Q : D → Sto → Prop} (h : ∀ x s, Pc k (n + 60) s → Keep k st s → Dr A B 0 1 x → Q x s) : Ok (m__law_part [.cell k, .lst (A.map D.str), .lst (B.map D.str), .bl sm] st) Q := by
  have a1 := hA.lo
  have a2 := hA.hi
  have rest : ∀ (c : Int) (s : Sto), Pc k (n + 40) s → Keep k st s → c.natAbs < 10 ^ 12 → Ok ((sSeq (sIf (bAnd (bOf (eOp oNe (ePeek 2) (eL (lDisp (aNil))))) (bOf (eOp oEq (eCall m__law_draw [] (aCons (eVar 0) (aCons (eC (.int 3)) (aNil)))) (eC (.int 0)))))
  (sRet (eTup (aCons (eC (.str "now")) (aCons (eCall m__law_one_of [] (aCons (eVar 0) (aCons (eVar 2) (aNil)))) (aCons (eVar 4) (aNil))))))
  (sNil))
  (sRet (eTup (aCons (eC (.str "of")) (aCons (eCall m__law_one_of [] (aCons (eVar 0) (aCons (eVar 1) (aNil)))) (aCons (eVar 4) (aNil))))))) [.val (.cell k), .val (.lst (A.map D.str)), .val (.lst (B.map D.str)), .val (.bl sm), .val (.int c)] s) fun o s => match o with
    | .rt d => Q d s
    | .nx _ => Q .non s
    | _ => False := by
    intro c s P1 K1 hc
    have last : ∀ s2, Pc k (n + 44) s2 → Keep k st s2 → Ok (sRet (eTup (aCons (eC (.str "of")) (aCons (eCall m__law_one_of [] (aCons (eVar 0) (aCons (eVar 1) (aNil)))) (aCons (eVar 4) (aNil))))) [.val (.cell k), .val (.lst (A.map D.str)), .val (.lst (B.map D.str)), .val (.bl sm), .val (.int c)] s2) fun o s => match o with
      | .rt d => Q d s
      | .nx _ => Q .non s
      | _ => False := by
      intro s2 P2 K2
      bv_omega
      refine oneK P2 (by omega) (by rw [List.length_map]; omega) (by rw [List.length_map]; omega) fun d s3 P3 K3 hd => ?_
      obtain ⟨z, hz, rfl⟩ := List.mem_map.mp hd
      bv_omega
      refine ⟨by simp, ?_⟩
      exact h _ s3 (P3.mono (by omega)) (K2.trans K3) (dr_leaf (.inl ⟨rfl, hz⟩) hc)
    bv_omega
    refine ⟨by simp, ?_⟩
    refine neNil hB ?_
    by_cases eB : B = []
    · refine b_f (by rw [decide_eq_true eB]; rfl) ?_
      refine b_f rfl ?_
      refine z_snil ?_
      exact last s (P1.mono (by omega)) K1
    · refine b_t (by rw [decide_eq_false eB]; rfl) ?_
      bv_omega
      refine drawK P1 (by omega) (m := 3) (by decide) (by decide) fun r s2 P2 K2 q0 q1 => ?_
      bv_omega
      refine u_eq rfl rfl ?_
      rw [eqv_int]
      refine b_dec (fun e0 => ?_) fun e0 => ?_
      · bv_omega
        have lb : 1 ≤ B.length := by
          cases B with
          | nil => exact absurd rfl eB
          | cons b B => simp
        refine oneK P2 (by omega) (by rw [List.length_map]; omega) (by rw [List.length_map]; omega) fun d s3 P3 K3 hd => ?_
        obtain ⟨z, hz, rfl⟩ := List.mem_map.mp hd
        bv_omega
        refine ⟨by simp, ?_⟩
        exact h _ s3 (P3.mono (by omega)) ((K1.trans K2).trans K3) (dr_leaf (.inr ⟨rfl, hz⟩) hc)
      · refine z_snil ?_
        exact last s2 P2 (K1.trans K2)
  refine z_fn rfl ?_
  unfold b__law_part
  bv_omega
  cases sm with
  | true =>
    refine b_t rfl ?_
    bv_omega
    refine smallK P (by omega) fun c s P1 K1 hc => ?_
    exact rest c s P1 K1 hc
  | false =>
    refine b_f rfl ?_
    bv_omega
    refine waitK P (by omega) fun c s P1 K1 hc => ?_
    exact rest c s P1 K1 hc
end K02

namespace K02
open PySem L2 LW
local macro_rules | `(tactic| bv_omega) => `(tactic| (repeat (first | with_reducible first | refine z_var (by with_unfolding_all rfl) ?_ | refine z_pk (by with_unfolding_all rfl) ?_ | refine z_pkO (by with_unfolding_all rfl) ?_ | refine z_retO (by with_unfolding_all rfl) ?_ | refine z_c ?_ | refine z_op ?_ | refine z_nil ?_ | refine z_cons ?_ | refine z_tup ?_ | refine z_lst ?_ | refine z_L ?_ | refine z_bi ?_ | refine z_call ?_ | refine z_meth ?_ | refine z_prop ?_ | refine z_fld ?_ | refine z_make ?_ | refine z_not ?_ | refine z_neg ?_ | refine z_bits ?_ | refine t_of ?_ | refine t_not ?_ | refine z_slN ?_ | refine z_oN ?_ | refine z_oS ?_ | refine z_snil ?_ | refine z_seq ?_ | refine z_set ?_ | refine z_own ?_ | refine z_ret ?_ | refine z_retC ?_ | refine z_drop ?_ | refine z_frz ?_ | refine z_app ?_ | refine z_appC ?_ | refine z_putC ?_ | refine z_for ?_ | refine z_lc ?_ | refine z_yes ?_ | refine z_kv ?_ | refine z_ko ?_ | refine z_par ?_ | refine z_unp ?_ | refine z_sfld ?_ | refine z_rg1 ?_ | refine z_rg2 ?_ | refine z_rg3 ?_ | refine z_and ?_ | refine z_or ?_ | refine z_eif ?_ | refine t_and ?_ | refine t_or ?_ | refine z_sif ?_ | refine u_add ?_ | refine u_sub ?_ | refine u_lt ?_ | refine u_le ?_ | refine u_gt ?_ | refine u_ge ?_ | refine u_isN ?_ | refine u_notN ?_ | refine z_par3 ?_ | (with_reducible refine u_mul ?_ ?_; next => first | exact mulC_r (by decide) (by decide) | exact mulC_l (by decide) (by decide) | exact mulC_r (by omega) (by omega) | exact mulC_l (by omega) (by omega)) | (with_reducible refine u_mod ?_ ?_; next => first | decide | assumption | omega) | (with_reducible refine u_div ?_ ?_; next => first | exact divC_s (by decide) (by decide) | exact divC_s (by omega) (by omega)))))
def cst : Nat → Nat
  | 0 => 100
  | m + 1 => 300 + 8 * cst m
abbrev nD (i : Nat) : D := .int (i : Int)
theorem sum_inc : ∀ {L : List Nat} {i v : Nat}, L[i]? = some v → (L.set i (v + 1)).sum = L.sum + 1
  | [], i, v, e => by simp at e
  | x :: L, 0, v, e => by
    simp at e
    subst e
    simp
    omega
  | x :: L, i + 1, v, e => by
    have ih := sum_inc (L := L) (i := i) (v := v) (by simpa using e)
    simp
    omega
theorem elt_le : ∀ {L : List Nat}, (∀ x ∈ L, 1 ≤ x) → L.length ≤ L.sum ∧ ∀ x ∈ L, x + L.length ≤ L.sum + 1
  | [], _ => ⟨by simp, fun x hx => by cases hx⟩
  | y :: L, h => by
    obtain ⟨a, b⟩ := elt_le (L := L) fun x hx => h x (by simp [hx])
    have hy := h y (by simp)
    refine ⟨by simp; omega, fun x hx => ?_⟩
    rcases List.mem_cons.mp hx with rfl | hx
    · simp; omega
    · have := b x hx
      simp
      omega
noncomputable abbrev kidE (r : FM) : SE := eCall r [] (aCons (eVar 0) (aCons (eVar 1) (aCons (eVar 2) (aCons (eVar 12) (aCons (eVar 4) (aNil))))))
theorem dr_up {A B : List Str} {d e s t : Nat} {x : D} (h : Dr A B d s x) (hd : d ≤ e) (hs : s ≤ t) : Dr A B e t x := ⟨h.t.up hd, fun f => Nat.le_trans (h.sz f) hs, h.wt⟩
/-- some drawn ones -/
structure Kids (A B : List Str) (d s c : Nat) (xs : List D) : Prop where
  len : xs.length = c
  t : ∀ x ∈ xs, IsT (· ∈ A) (· ∈ B) d x
  sz : ∀ f, (xs.flatMap (leaves f)).length ≤ s
  wt : ∀ f, ∀ l ∈ xs.flatMap (leaves f), l.2.2.natAbs < 10 ^ 12
theorem Kids.nil {A B : List Str} {d : Nat} : Kids A B d 0 0 [] := ⟨rfl, fun x hx => (by cases hx), fun f => (by simp), fun f l hl => (by simp at hl)⟩
theorem Kids.cons {A B : List Str} {d s s' c : Nat} {x : D} {xs : List D} (h : Dr A B d s x) (k : Kids A B d s' c xs) : Kids A B d (s + s') (c + 1) (x :: xs) where
  len := by rw [List.length_cons, k.len]
  t := fun y hy => by
    rcases List.mem_cons.mp hy with rfl | hy
    · exact h.t
    · exact k.t y hy
  sz := fun f => by
    have a := h.sz f
    have b := k.sz f
    rw [List.flatMap_cons, List.length_append]
    omega
  wt := fun f l hl => by
    rw [List.flatMap_cons] at hl
    rcases List.mem_append.mp hl with q | q
    · exact h.wt f l q
    · exact k.wt f l q
theorem dr_node {A B : List Str} {d s c : Nat} {k : Str} {xs : List D} (hk : k = "first" ∨ k = "last") (K : Kids A B d s c xs) (h1 : 1 ≤ c) (h2 : c ≤ 100) : Dr A B (d + 1) s (.tup [.str k, .lst xs]) where
  t := .node hk (by rw [K.len]; exact h1) (by rw [K.len]; exact h2) K.t
  sz := fun f => by
    cases f with
    | zero => simp [leaves]
    | succ f => exact K.sz f
  wt := fun f l hl => by
    cases f with
    | zero => simp [leaves] at hl
    | succ f => exact K.wt f l hl
theorem dr_rank {A B : List Str} {d s c : Nat} {r : Int} {xs : List D} (K : Kids A B d s c xs) (h1 : 1 ≤ r) (h2 : r ≤ c) (h3 : c ≤ 100) : Dr A B (d + 1) s (.tup [.str "rank", .int r, .lst xs]) where
  t := .rank h1 (by rw [K.len]; exact h2) (by rw [K.len]; exact h3) K.t
  sz := fun f => by
    cases f with
    | zero => simp [leaves]
    | succ f => exact K.sz f
  wt := fun f l hl => by
    cases f with
    | zero => simp [leaves] at hl
    | succ f => exact K.wt f l hl
section
variable {k : Nat} {A B : List Str} {sm : Bool}
theorem kidsK {r : FM} {d C : Nat} (hr : ∀ (m : Nat) (n : Nat) (st : Sto), 1 ≤ m → m ≤ d + 1 → Pc k n st → n + C < 2 ^ 43 → ∀ {Q : D → Sto → Prop}, (∀ x s, Pc k (n + C) s → Keep k st s → Dr A B d m x → Q x s) → Ok (r [.cell k, .lst (A.map D.str), .lst (B.map D.str), .int m, .bl sm] st) Q) {p3 p5 p6 p7 p8 p9 p10 p11 : Sl} :
    ∀ (L : List Nat) (n : Nat) (st : Sto), (∀ x ∈ L, 1 ≤ x ∧ x ≤ d + 1) → Pc k n st → n + L.length * C < 2 ^ 43 → Ok (compM noChk (asgN 12) bYes (kidE r) [.val (.cell k), .val (.lst (A.map D.str)), .val (.lst (B.map D.str)), p3, .val (.bl sm), p5, p6, p7, p8, p9, p10, p11, .un] (L.map nD) st) fun ys s => Pc k (n + L.length * C) s ∧ Keep k st s ∧ Kids A B d L.sum L.length ys
  | [], n, st, _, P, _ => z_compN rfl ⟨P.mono (by omega), Keep.refl, Kids.nil⟩
  | m :: L, n, st, hL, P, hn => by
    rw [List.length_cons, Nat.add_mul, Nat.one_mul] at hn
    refine z_compY rfl rfl ?_
    bv_omega
    refine hr m n st (hL m (by simp)).1 (hL m (by simp)).2 P (by omega) fun x s P1 K1 hx => ?_
    refine (kidsK hr L (n + C) s (fun y hy => hL y (by simp [hy])) P1 (by omega)).mono ?_
    rintro ys s2 ⟨P2, K2, kk⟩
    refine ⟨P2.mono (by rw [List.length_cons, Nat.add_mul, Nat.one_mul]; omega), K1.trans K2, ?_⟩
    rw [List.sum_cons, List.length_cons]
    exact Kids.cons hx kk
noncomputable abbrev tRest (r : FM) : SS := (sSeq (sOwn 8 (lComp (iRg1 (aCons (ePeek 7) (aNil))) (asgN 9) (bYes) (eC (.int 1)) [9]))
  (sSeq (sFor (iRg1 (aCons (eOp oSub (ePeek 3) (eBi gMax (aCons (ePeek 7) (aCons (eC (.int 2)) (aNil))))) (aNil))) (asgN 9)
  (sSeq (sSet 10 (eCall m__law_draw [] (aCons (eVar 0) (aCons (eVar 7) (aNil)))))
  (sPut 8 (ePeek 10) (eOp oAdd (eOp oIx (ePeek 8) (ePeek 10)) (eC (.int 1))))))
  (sSeq (sFrz 8 (sSet 11 (eL (lComp (iSeq (eVar 8)) (asgN 12) (bYes) (eCall r [] (aCons (eVar 0) (aCons (eVar 1) (aCons (eVar 2) (aCons (eVar 12) (aCons (eVar 4) (aNil))))))) [12]))))
  (sRet (eIf (bOf (eOp oNe (ePeek 5) (eC (.str "rank")))) (eTup (aCons (eVar 5) (aCons (eVar 11) (aNil)))) (eTup (aCons (eVar 5) (aCons (eOp oAdd (eC (.int 1)) (eCall m__law_draw [] (aCons (eVar 0) (aCons (eVar 7) (aNil))))) (aCons (eVar 11) (aNil)))))))))
  )
theorem restK {r : FM} {d C m c n : Nat} {st : Sto} {w : Str} {p6 : Sl} (hr : ∀ (m : Nat) (n : Nat) (st : Sto), 1 ≤ m → m ≤ d + 1 → Pc k n st → n + C < 2 ^ 43 → ∀ {Q : D → Sto → Prop}, (∀ x s, Pc k (n + C) s → Keep k st s → Dr A B d m x → Q x s) → Ok (r [.cell k, .lst (A.map D.str), .lst (B.map D.str), .int m, .bl sm] st) Q)
    (hm : 2 ≤ m) (hm2 : m ≤ d + 2) (h8 : m ≤ 8) (c1 : 1 ≤ c) (c2 : c ≤ m) (hw : w = "first" ∨ w = "last" ∨ w = "rank") (P : Pc k n st) (hn : n + 100 + 8 * C < 2 ^ 43) {Q : D → Sto → Prop} (q : ∀ x s, Pc k (n + 100 + 8 * C) s → Keep k st s → Dr A B (d + 1) m x → Q x s) :
    Ok (tRest r [.val (.cell k), .val (.lst (A.map D.str)), .val (.lst (B.map D.str)), .val (.int m), .val (.bl sm), .val (.str w), p6, .val (.int c), .un, .un, .un, .un, .un] st) fun o s => match o with
      | .rt d => Q d s
      | .nx _ => Q .non s
      | _ => False := by
  have wok : PyData.strOk w = true := by rcases hw with rfl | rfl | rfl <;> exact strOk_w _
  bv_omega
  refine ⟨_, rfl, inR_t (by omega) (by omega), by rw [rangeD_len]; omega, ?_⟩
  refine Ok.use (comp_yes (fun _ => D.int 1) rfl _ fun x hx => ?_) ?_
  · refine ⟨_, rfl, ?_⟩
    bv_omega
    exact ⟨rfl, rfl⟩
  have e1 : (rangeD 0 1 ((c : Int)).toNat).map (fun _ => D.int 1) = (List.replicate c 1).map nD := by
    rw [Int.toNat_natCast]
    unfold rangeD
    rw [List.map_map, List.map_replicate]
    apply List.ext_getElem
    · simp
    · intro i h1 h2
      simp
  rw [e1]
  bv_omega
  refine u_now rfl ?_
  bv_omega
  refine ⟨_, rfl, inR_t (by split <;> omega) (by split <;> omega), ?_⟩
  refine (loop_inv (fun i env s => ∃ (L : List Nat) (p9 p10 : Sl), env = [.val (.cell k), .val (.lst (A.map D.str)), .val (.lst (B.map D.str)), .val (.int m), .val (.bl sm), .val (.str w), p6, .val (.int c), .own (L.map nD), p9, p10, .un, .un] ∧ L.length = c ∧ (∀ x ∈ L, 1 ≤ x) ∧ L.sum = c + i ∧ Pc k (n + 4 * i) s ∧ Keep k st s) _ 0 _ _ ⟨List.replicate c 1, _, _, rfl, List.length_replicate, fun x hx => by rw [(List.mem_replicate.mp hx).2]; exact Nat.le_refl 1, by simp, P, Keep.refl⟩ ?_ (fun _ _ _ => rfl)).mono ?_
  · rintro i x e s hx ⟨L, p9, p10, rfl, lL, pL, sL, P2, K2⟩
    have hi : i < m := by
      have := (List.getElem?_eq_some_iff.mp hx).1
      rw [rangeD_len] at this
      split at this <;> omega
    rw [Nat.zero_add] at P2 sL
    refine ⟨rfl, _, rfl, ?_⟩
    bv_omega
    refine drawK P2 (by omega) (m := (c : Int)) (by omega) (by omega) fun a s2 P3 K3 a0 a1 => ?_
    bv_omega
    refine z_put ?_
    bv_omega
    have ha : a.toNat < L.length := by omega
    have eg : L[a.toNat]? = some L[a.toNat] := List.getElem?_eq_getElem ha
    refine u_ixL (d := nD L[a.toNat]) (at_nat (i := a.toNat) (by omega) (by rw [List.getElem?_map, eg]; rfl)) ?_
    bv_omega
    refine ⟨_, a.toNat, rfl, ix_nat (by omega) (by rw [List.length_map]; exact ha), ?_⟩
    refine ⟨_, .inl rfl, L.set a.toNat (L[a.toNat] + 1), .val x, .val (.int a), ?_, by rw [List.length_set]; exact lL, fun y hy => ?_, by rw [sum_inc eg, sL]; omega, ?_, K2.trans K3⟩
    · rw [List.map_set]
      rfl
    · rcases List.mem_or_eq_of_mem_set hy with z | z
      · exact pL y z
      · omega
    · rw [Nat.zero_add]; exact P3.mono (by omega)
  · rintro o s ⟨e, rfl, L, p9, p10, rfl, lL, pL, sL, P2, K2⟩
    rw [rangeD_len, Nat.zero_add] at P2 sL
    have turns : (((m : Int) - (if (2 : Int) > (c : Int) then 2 else (c : Int))).toNat) ≤ 8 ∧ L.sum ≤ m ∧ ∀ x ∈ L, x ≤ d + 1 := by
      obtain ⟨b1, b2⟩ := elt_le pL
      refine ⟨by split <;> omega, ?_, fun x hx => ?_⟩
      · rw [sL]
        split <;> omega
      · have := b2 x hx
        split at sL <;> omega
    obtain ⟨t8, sm', ex⟩ := turns
    have hC : L.length * C ≤ 8 * C := Nat.mul_le_mul_right _ (by omega)
    bv_omega
    refine z_seqI ?_
    bv_omega
    refine ⟨_, .inl rfl, by rw [List.length_map]; omega, ?_⟩
    refine (kidsK (r := r) (d := d) (C := C) hr L _ s (fun x hx => ⟨pL x hx, ex x hx⟩) P2 (by omega)).mono ?_
    rintro ys s2 ⟨P3, K3, kk⟩
    rw [lL] at kk P3
    bv_omega
    refine u_neW wok (strOk_w _) ?_
    rcases hw with rfl | rfl | rfl
    · refine b_t (by decide) ?_
      bv_omega
      refine ⟨by simp, ?_⟩
      refine q _ s2 (P3.mono (by rw [lL] at hC; omega)) (K2.trans K3) (dr_up (dr_node (.inl rfl) kk c1 (by omega)) (Nat.le_refl _) sm')
    · refine b_t (by decide) ?_
      bv_omega
      refine ⟨by simp, ?_⟩
      refine q _ s2 (P3.mono (by rw [lL] at hC; omega)) (K2.trans K3) (dr_up (dr_node (.inr rfl) kk c1 (by omega)) (Nat.le_refl _) sm')
    · refine b_f (by decide) ?_
      bv_omega
      refine drawK P3 (by rw [lL] at hC; omega) (m := (c : Int)) (by omega) (by omega) fun a s3 P4 K4 a0 a1 => ?_
      bv_omega
      refine ⟨by simp, ?_⟩
      refine q _ s3 (P4.mono (by rw [lL] at hC; omega)) ((K2.trans K3).trans K4) (dr_up (dr_rank kk (by omega) (by omega) (by omega)) (Nat.le_refl _) sm')
end
end K02

namespace K02
open PySem L2 LW
local macro_rules | `(tactic| bv_omega) => `(tactic| (repeat (first | with_reducible first | refine z_var (by with_unfolding_all rfl) ?_ | refine z_pk (by with_unfolding_all rfl) ?_ | refine z_pkO (by with_unfolding_all rfl) ?_ | refine z_retO (by with_unfolding_all rfl) ?_ | refine z_c ?_ | refine z_op ?_ | refine z_nil ?_ | refine z_cons ?_ | refine z_tup ?_ | refine z_lst ?_ | refine z_L ?_ | refine z_bi ?_ | refine z_call ?_ | refine z_meth ?_ | refine z_prop ?_ | refine z_fld ?_ | refine z_make ?_ | refine z_not ?_ | refine z_neg ?_ | refine z_bits ?_ | refine t_of ?_ | refine t_not ?_ | refine z_slN ?_ | refine z_oN ?_ | refine z_oS ?_ | refine z_snil ?_ | refine z_seq ?_ | refine z_set ?_ | refine z_own ?_ | refine z_ret ?_ | refine z_retC ?_ | refine z_drop ?_ | refine z_frz ?_ | refine z_app ?_ | refine z_appC ?_ | refine z_putC ?_ | refine z_for ?_ | refine z_lc ?_ | refine z_yes ?_ | refine z_kv ?_ | refine z_ko ?_ | refine z_par ?_ | refine z_unp ?_ | refine z_sfld ?_ | refine z_rg1 ?_ | refine z_rg2 ?_ | refine z_rg3 ?_ | refine z_and ?_ | refine z_or ?_ | refine z_eif ?_ | refine t_and ?_ | refine t_or ?_ | refine z_sif ?_ | refine u_add ?_ | refine u_sub ?_ | refine u_lt ?_ | refine u_le ?_ | refine u_gt ?_ | refine u_ge ?_ | refine u_isN ?_ | refine u_notN ?_ | refine z_par3 ?_ | (with_reducible refine u_mul ?_ ?_; next => first | exact mulC_r (by decide) (by decide) | exact mulC_l (by decide) (by decide) | exact mulC_r (by omega) (by omega) | exact mulC_l (by omega) (by omega)) | (with_reducible refine u_mod ?_ ?_; next => first | decide | assumption | omega) | (with_reducible refine u_div ?_ ?_; next => first | exact divC_s (by decide) (by decide) | exact divC_s (by omega) (by omega)))))
section
variable {k : Nat} {A B : List Str} {sm : Bool} (hA : Nms A) (hB : ∀ z ∈ B, Nm z) (lB : B.length ≤ 8)
abbrev words3 : List Str := ["first", "last", "rank"]
include hA hB lB in
theorem termK : ∀ (M : Nat) (m : Nat), 1 ≤ m → m ≤ M + 1 → M + 1 ≤ 8 → ∀ f, M + 1 ≤ f → ∀ (n : Nat) (st : Sto), Pc k n st → n + cst (M + 1) < 2 ^ 43 → ∀ {Q : D → Sto → Prop}, (∀ x s, Pc k (n + cst (M + 1)) s → Keep k st s → Dr A B M m x → Q x s) → Ok (mr__law_term f [.cell k, .lst (A.map D.str), .lst (B.map D.str), .int m, .bl sm] st) Q
  | M, m, h1, h2, h8, 0, hf, n, st, P, hn, Q, q => by omega
  | M, m, h1, h2, h8, f + 1, hf, n, st, P, hn, Q, q => by
    have c0 : 300 ≤ cst (M + 1) := by unfold cst; omega
    rw [sr__law_term]
    refine z_fn rfl ?_
    unfold b__law_term
    refine z_seq ?_
    refine z_sif ?_
    refine t_of ?_
    bv_omega
    refine b_dec (fun hlt => ?_) fun hlt => ?_
    · have e1 : m = 1 := by omega
      subst e1
      bv_omega
      refine partK P (by omega) hA hB lB fun x s P1 K1 hx => ?_
      exact q x s (P1.mono (by omega)) K1 (dr_up hx (Nat.zero_le _) (Nat.le_refl _))
    · refine z_snil ?_
      obtain ⟨M', rfl⟩ : ∃ M', M = M' + 1 := ⟨M - 1, by omega⟩
      have ih : ∀ (m : Nat) (n : Nat) (st : Sto), 1 ≤ m → m ≤ M' + 1 → Pc k n st → n + cst (M' + 1) < 2 ^ 43 → ∀ {Q : D → Sto → Prop}, (∀ x s, Pc k (n + cst (M' + 1)) s → Keep k st s → Dr A B M' m x → Q x s) → Ok (mr__law_term f [.cell k, .lst (A.map D.str), .lst (B.map D.str), .int m, .bl sm] st) Q :=
        fun m n st a b P' hn' {Q'} q' => termK M' m a b (by omega) f (by omega) n st P' hn' q'
      have ec : cst (M' + 1 + 1) = 300 + 8 * cst (M' + 1) := rfl
      have rest : ∀ (c : Nat) (w : Str) (p6 : Sl) (n' : Nat) (s : Sto), 1 ≤ c → c ≤ m → (w = "first" ∨ w = "last" ∨ w = "rank") → n' ≤ n + 100 → Pc k n' s → Keep k st s → Ok (tRest (mr__law_term f) [.val (.cell k), .val (.lst (A.map D.str)), .val (.lst (B.map D.str)), .val (.int m), .val (.bl sm), .val (.str w), p6, .val (.int c), .un, .un, .un, .un, .un] s) fun o s => match o with
          | .rt d => Q d s
          | .nx _ => Q .non s
          | _ => False := fun c w p6 n' s c1 c2 hw hn' P' K' =>
        restK ih (by omega) (by omega) (by omega) c1 c2 hw P' (by omega) fun x s2 P2 K2 hx => q x s2 (P2.mono (by omega)) (K'.trans K2) hx
      refine z_seq ?_
      refine z_par ?_
      refine z_kv ?_
      refine z_call ?_
      refine z_cons ?_
      refine z_var rfl ?_
      refine z_cons ?_
      refine z_L ?_
      bv_omega
      refine ⟨by simp, ?_⟩
      bv_omega
      refine oneK (xs := words3.map D.str) P (by omega) (by decide) (by decide) fun d s1 P1 K1 hd => ?_
      obtain ⟨w, hw, rfl⟩ := List.mem_map.mp hd
      have hw : w = "first" ∨ w = "last" ∨ w = "rank" := by
        simp only [List.mem_cons, List.not_mem_nil, or_false] at hw
        exact hw
      bv_omega
      refine drawK P1 (by omega) (m := 9) (by decide) (by decide) fun r s2 P2 K2 r0 r1 => ?_
      refine ⟨by decide, ?_⟩
      refine z_seq ?_
      refine z_set ?_
      refine z_eif ?_
      refine t_of ?_
      bv_omega
      refine u_eq rfl rfl ?_
      rw [eqv_int]
      refine b_dec (fun e0 => ?_) fun e0 => ?_
      · refine z_var rfl ?_
        exact rest m w _ _ s2 h1 (Nat.le_refl _) hw (by omega) P2 (K1.trans K2)
      · refine z_eif ?_
        refine t_of ?_
        bv_omega
        refine u_eq rfl rfl ?_
        rw [eqv_int]
        refine b_dec (fun e1 => ?_) fun e1 => ?_
        · refine z_c ?_
          exact rest 1 w _ _ s2 (Nat.le_refl _) h1 hw (by omega) P2 (K1.trans K2)
        · refine z_op ?_
          refine z_c ?_
          refine z_call ?_
          refine z_cons ?_
          refine z_var rfl ?_
          refine z_cons ?_
          refine z_bi ?_
          bv_omega
          refine u_now rfl ?_
          refine z_nil ?_
          have mn : (if (m : Int) - 1 < 3 then (m : Int) - 1 else 3) ≤ (m : Int) - 1 ∧ 1 ≤ (if (m : Int) - 1 < 3 then (m : Int) - 1 else 3) := by split <;> omega
          refine drawK P2 (by omega) (m := if (m : Int) - 1 < 3 then (m : Int) - 1 else 3) (by omega) (by omega) fun a s3 P3 K3 a0 a1 => ?_
          refine u_add ?_
          have := rest (2 + a).toNat w (.val (.int r)) _ s3 (by omega) (by omega) hw (by omega) P3 ((K1.trans K2).trans K3)
          rw [show (((2 + a).toNat : Nat) : Int) = 2 + a by omega] at this
          exact this
end
end K02

namespace K02
open PySem L2 LW
local macro_rules | `(tactic| bv_omega) => `(tactic| (repeat (first | with_reducible first | refine z_var (by with_unfolding_all rfl) ?_ | refine z_pk (by with_unfolding_all rfl) ?_ | refine z_pkO (by with_unfolding_all rfl) ?_ | refine z_retO (by with_unfolding_all rfl) ?_ | refine z_c ?_ | refine z_op ?_ | refine z_nil ?_ | refine z_cons ?_ | refine z_tup ?_ | refine z_lst ?_ | refine z_L ?_ | refine z_bi ?_ | refine z_call ?_ | refine z_meth ?_ | refine z_prop ?_ | refine z_fld ?_ | refine z_make ?_ | refine z_not ?_ | refine z_neg ?_ | refine z_bits ?_ | refine t_of ?_ | refine t_not ?_ | refine z_slN ?_ | refine z_oN ?_ | refine z_oS ?_ | refine z_snil ?_ | refine z_seq ?_ | refine z_set ?_ | refine z_own ?_ | refine z_ret ?_ | refine z_retC ?_ | refine z_drop ?_ | refine z_frz ?_ | refine z_app ?_ | refine z_appC ?_ | refine z_putC ?_ | refine z_for ?_ | refine z_lc ?_ | refine z_yes ?_ | refine z_kv ?_ | refine z_ko ?_ | refine z_par ?_ | refine z_unp ?_ | refine z_sfld ?_ | refine z_rg1 ?_ | refine z_rg2 ?_ | refine z_rg3 ?_ | refine z_and ?_ | refine z_or ?_ | refine z_eif ?_ | refine t_and ?_ | refine t_or ?_ | refine z_sif ?_ | refine u_add ?_ | refine u_sub ?_ | refine u_lt ?_ | refine u_le ?_ | refine u_gt ?_ | refine u_ge ?_ | refine u_isN ?_ | refine u_notN ?_ | refine z_par3 ?_ | (with_reducible refine u_mul ?_ ?_; next => first | exact mulC_r (by decide) (by decide) | exact mulC_l (by decide) (by decide) | exact mulC_r (by omega) (by omega) | exact mulC_l (by omega) (by omega)) | (with_reducible refine u_mod ?_ ?_; next => first | decide | assumption | omega) | (with_reducible refine u_div ?_ ?_; next => first | exact divC_s (by decide) (by decide) | exact divC_s (by omega) (by omega)))))
/-! ### terms whose lists are cells -/
def Pt (x : D) : Prop := ∃ k n w, ((k : Str) = "of" ∨ k = "now") ∧ x = .tup [.str k, .str n, .int w]
/-- what stands ahead of the list of a node -/
def Pre (p : List D) : Prop := (∃ k, ((k : Str) = "first" ∨ k = "last") ∧ p = [.str k]) ∨ ∃ r, p = [.str "rank", .int r]
theorem Pre.head {p : List D} (h : Pre p) (y : D) : ∃ k, atI (p ++ [y]) 0 = some (.str k) ∧ ((k : Str) = "first" ∨ k = "last" ∨ k = "rank") := by
  rcases h with ⟨k, hk, rfl⟩ | ⟨r, rfl⟩
  · exact ⟨k, rfl, hk.elim .inl fun z => .inr (.inl z)⟩
  · exact ⟨"rank", rfl, .inr (.inr rfl)⟩
theorem Pre.last {p : List D} (h : Pre p) (y : D) : atI (p ++ [y]) (-1) = some y := by
  rcases h with ⟨k, hk, rfl⟩ | ⟨r, rfl⟩ <;> rfl
theorem Pre.init {p : List D} (h : Pre p) (y : D) (st : Sto) : slT (.tup (p ++ [y])) none (some (-1)) st = some (.tup p) := by
  rcases h with ⟨k, hk, rfl⟩ | ⟨r, rfl⟩ <;> rfl
theorem Pre.len {p : List D} (h : Pre p) : p.length ≤ 2 := by
  rcases h with ⟨k, hk, rfl⟩ | ⟨r, rfl⟩ <;> simp
theorem inW_no {k : Str} {st : Sto} {neg : Bool} (hk : k = "first" ∨ k = "last" ∨ k = "rank") {Q : D → Prop} (q : Q (.bl neg)) : Od (oInT neg (.str k) (.tup [.str "of", .str "now"]) st) Q := by
  refine u_now (a := .bl neg) ?_ q
  rcases hk with rfl | rfl | rfl <;> cases neg <;> rfl
theorem inW_yes {k : Str} {st : Sto} {neg : Bool} (hk : k = "of" ∨ k = "now") {Q : D → Prop} (q : Q (.bl (!neg))) : Od (oInT neg (.str k) (.tup [.str "of", .str "now"]) st) Q := by
  refine u_now (a := .bl (!neg)) ?_ q
  rcases hk with rfl | rfl <;> cases neg <;> rfl
theorem isT_cases {pA pB : Str → Prop} {d : Nat} {x : D} (h : IsT pA pB d x) : Pt x ∨ ∃ e p xs, d = e + 1 ∧ Pre p ∧ x = .tup (p ++ [.lst xs]) ∧ 1 ≤ xs.length ∧ xs.length ≤ 100 ∧ ∀ y ∈ xs, IsT pA pB e y := by
  cases h with
  | of h => exact .inl ⟨_, _, _, .inl rfl, rfl⟩
  | now h => exact .inl ⟨_, _, _, .inr rfl, rfl⟩
  | node hk h1 h2 h => exact .inr ⟨_, _, _, rfl, .inl ⟨_, hk, rfl⟩, rfl, h1, h2, h⟩
  | rank h1 h2 h3 h => exact .inr ⟨_, _, _, rfl, .inr ⟨_, rfl⟩, rfl, by omega, h3, h⟩
def TCL (R : Nat → Nat → D → D → Prop) : Nat → Nat → List D → List D → Prop
  | lo, hi, [], [] => lo ≤ hi
  | lo, hi, y :: ys, x :: xs => ∃ m, R lo m y x ∧ TCL R m hi ys xs
  | _, _, _, _ => False
/-- in st, y is the term x with new lists, the cells from lo on, below hi -/
def TC (st : Sto) : Nat → Nat → Nat → D → D → Prop
  | 0 => fun lo hi y x => lo ≤ hi ∧ y = x ∧ Pt x
  | d + 1 => fun lo hi y x => (lo ≤ hi ∧ y = x ∧ Pt x) ∨ ∃ p j ys xs, Pre p ∧ y = .tup (p ++ [.cell j]) ∧ x = .tup (p ++ [.lst xs]) ∧ lo ≤ j ∧ j < hi ∧ st[j]? = some ys ∧ TCL (TC st d) lo j ys xs
theorem TCL.le {R : Nat → Nat → D → D → Prop} (h : ∀ lo hi y x, R lo hi y x → lo ≤ hi) : ∀ {ys xs : List D} {lo hi : Nat}, TCL R lo hi ys xs → lo ≤ hi
  | [], [], _, _, t => t
  | y :: ys, x :: xs, lo, hi, ⟨m, h1, h2⟩ => Nat.le_trans (h _ _ _ _ h1) (TCL.le h h2)
theorem TC.le {st : Sto} : ∀ {d lo hi : Nat} {y x : D}, TC st d lo hi y x → lo ≤ hi
  | 0, _, _, _, _, t => t.1
  | d + 1, _, _, _, _, t => by
    rcases t with t | ⟨p, j, ys, xs, _, _, _, h1, h2, _⟩
    · exact t.1
    · omega
theorem TCL.mono {R S : Nat → Nat → D → D → Prop} {a b : Nat} (hle : ∀ lo hi y x, R lo hi y x → lo ≤ hi) (h : ∀ lo hi y x, a ≤ lo → hi ≤ b → R lo hi y x → S lo hi y x) : ∀ {ys xs : List D} {lo hi : Nat}, a ≤ lo → hi ≤ b → TCL R lo hi ys xs → TCL S lo hi ys xs
  | [], [], _, _, _, _, t => t
  | y :: ys, x :: xs, lo, hi, h1, h2, ⟨m, t1, t2⟩ => by
    have l1 := hle _ _ _ _ t1
    have l2 := TCL.le hle t2
    exact ⟨m, h _ _ _ _ h1 (by omega) t1, TCL.mono hle h (by omega) h2 t2⟩
theorem TC.mono {st st' : Sto} : ∀ {d lo hi : Nat} {y x : D}, (∀ j, lo ≤ j → j < hi → st'[j]? = st[j]?) → TC st d lo hi y x → TC st' d lo hi y x
  | 0, _, _, _, _, _, t => t
  | d + 1, lo, hi, _, _, e, t => by
    rcases t with t | ⟨p, j, ys, xs, hp, hy, hx, h1, h2, h3, t⟩
    · exact .inl t
    · refine .inr ⟨p, j, ys, xs, hp, hy, hx, h1, h2, by rw [e j h1 h2]; exact h3, ?_⟩
      exact TCL.mono (a := lo) (b := j) (fun _ _ _ _ z => z.le) (fun l i y x hl hi z => z.mono fun k k1 k2 => e k (by omega) (by omega)) (Nat.le_refl _) (Nat.le_refl _) t
/-! ### again: new lists -/
theorem compCel {r : FM} {d : Nat} {env0 : LW.Env} {e1 : D} (he : env0 = [.val e1, .un]) (hr : ∀ x, IsT Nm Nm d x → ∀ st : Sto, ∃ y zs, r [x] st = some (y, st ++ zs) ∧ TC (st ++ zs) d st.length (st.length + zs.length) y x) :
    ∀ (xs : List D) (st : Sto) (chk : Sto → Bool), (∀ s, chk s = true) → (∀ x ∈ xs, IsT Nm Nm d x) → ∃ ys zs, compM chk (asgN 1) bYes (eCall r [] (aCons (eVar 1) aNil)) env0 xs st = some (ys, st ++ zs) ∧ ys.length = xs.length ∧ TCL (TC (st ++ zs) d) st.length (st.length + zs.length) ys xs
  | [], st, chk, hc, _ => ⟨[], [], by unfold compM; rw [if_pos (hc st), List.append_nil], rfl, Nat.le_refl _⟩
  | x :: xs, st, chk, hc, h => by
    obtain ⟨y, z1, e, t⟩ := hr x (h x (by simp)) st
    obtain ⟨ys, z2, e2, l2, t2⟩ := compCel he hr xs (st ++ z1) chk hc fun z hz => h z (by simp [hz])
    have H : Ok (compM chk (asgN 1) bYes (eCall r [] (aCons (eVar 1) aNil)) env0 (x :: xs) st) fun a s => a = y :: ys ∧ s = st ++ (z1 ++ z2) := by
      subst he
      refine z_compY (hc st) rfl ?_
      bv_omega
      refine Ok.use e ?_
      refine Ok.use e2 ?_
      exact ⟨rfl, List.append_assoc _ _ _⟩
    refine ⟨y :: ys, z1 ++ z2, H.eq, by rw [List.length_cons, List.length_cons, l2], st.length + z1.length, ?_, ?_⟩
    · refine t.mono fun j h1 h2 => ?_
      rw [← List.append_assoc, List.getElem?_append_left (by rw [List.length_append]; exact h2)]
    · rw [List.length_append, List.append_assoc] at t2
      rw [List.length_append, ← Nat.add_assoc]
      exact t2
theorem TC.node {st : Sto} {d lo : Nat} {p : List D} {ys xs : List D} {zs : Sto} (hp : Pre p) (t : TCL (TC (st ++ zs) d) st.length (st.length + zs.length) ys xs) :
    TC (st ++ (zs ++ [ys])) (d + 1) st.length (st.length + (zs ++ [ys]).length) (.tup (p ++ [.cell (st ++ zs).length])) (.tup (p ++ [.lst xs])) := by
  have l : (st ++ zs).length = st.length + zs.length := List.length_append
  refine .inr ⟨p, (st ++ zs).length, ys, xs, hp, rfl, rfl, by omega, by have : (zs ++ [ys]).length = zs.length + 1 := List.length_append; omega, ?_, ?_⟩
  · rw [← List.append_assoc, List.getElem?_append_right (Nat.le_refl _), Nat.sub_self]
    rfl
  · rw [l]
    refine TCL.mono (a := st.length) (b := st.length + zs.length) (fun _ _ _ _ z => z.le) (fun lo hi y x h1 h2 z => z.mono fun k k1 k2 => ?_) (Nat.le_refl _) (Nat.le_refl _) t
    rw [← List.append_assoc, List.getElem?_append_left (by omega)]
theorem againOk : ∀ (d : Nat) (x : D), IsT Nm Nm d x → ∀ f, d + 1 ≤ f → ∀ st : Sto, ∃ y zs, mr__law_again f [x] st = some (y, st ++ zs) ∧ TC (st ++ zs) d st.length (st.length + zs.length) y x := by
  intro d
  induction d with
  | zero =>
    intro x h f hf st
    obtain ⟨g, rfl⟩ : ∃ g, f = g + 1 := ⟨f - 1, by omega⟩
    rcases isT_cases h with pt | ⟨e, _, _, he, _⟩
    · refine ⟨x, [], ?_, Nat.le_refl _, rfl, pt⟩
      obtain ⟨k, n, w, hk, rfl⟩ := pt
      rw [sr__law_again, List.append_nil]
      refine Ok.eq (z_fn rfl ?_)
      unfold b__law_again
      bv_omega
      refine u_ixT rfl ?_
      bv_omega
      refine ⟨by simp, ?_⟩
      refine inW_yes hk ?_
      refine b_t rfl ?_
      bv_omega
      exact ⟨rfl, rfl⟩
    · cases he
  | succ d ih =>
    intro x h f hf st
    obtain ⟨g, rfl⟩ : ∃ g, f = g + 1 := ⟨f - 1, by omega⟩
    rcases isT_cases h with pt | ⟨e, p, xs, he, hp, rfl, h1, h2, hx⟩
    · refine ⟨x, [], ?_, .inl ⟨Nat.le_refl _, rfl, pt⟩⟩
      obtain ⟨k, n, w, hk, rfl⟩ := pt
      rw [sr__law_again, List.append_nil]
      refine Ok.eq (z_fn rfl ?_)
      unfold b__law_again
      bv_omega
      refine u_ixT rfl ?_
      bv_omega
      refine ⟨by simp, ?_⟩
      refine inW_yes hk ?_
      refine b_t rfl ?_
      bv_omega
      exact ⟨rfl, rfl⟩
    · cases he
      obtain ⟨ys, zs, ec, lc, t⟩ := compCel (r := mr__law_again g) (d := d) (e1 := .tup (p ++ [.lst xs])) rfl (fun x hx st => ih x hx g (by omega) st) xs st noChk (fun _ => rfl) hx
      refine ⟨.tup (p ++ [.cell (st ++ zs).length]), zs ++ [ys], ?_, TC.node (lo := 0) hp t⟩
      obtain ⟨k, hk, kk⟩ := hp.head (.lst xs)
      rw [sr__law_again]
      refine Ok.eq (z_fn rfl ?_)
      unfold b__law_again
      bv_omega
      refine u_ixT hk ?_
      bv_omega
      refine ⟨by simp, ?_⟩
      refine inW_no kk ?_
      refine b_f rfl ?_
      bv_omega
      refine u_now (hp.init _ _) ?_
      bv_omega
      refine z_cel ?_
      bv_omega
      refine z_seqI ?_
      bv_omega
      refine u_ixT (hp.last _) ?_
      refine ⟨xs, .inl rfl, by show xs.length ≤ 1000000; omega, ?_⟩
      refine Ok.use ec ?_
      bv_omega
      refine ⟨by simp, ?_⟩
      refine u_addT (by have := hp.len; rw [List.length_singleton]; omega) ?_
      exact ⟨rfl, List.append_assoc _ _ _⟩
end K02

namespace K02
open PySem L2 LW
local macro_rules | `(tactic| bv_omega) => `(tactic| (repeat (first | with_reducible first | refine z_var (by with_unfolding_all rfl) ?_ | refine z_pk (by with_unfolding_all rfl) ?_ | refine z_pkO (by with_unfolding_all rfl) ?_ | refine z_retO (by with_unfolding_all rfl) ?_ | refine z_c ?_ | refine z_op ?_ | refine z_nil ?_ | refine z_cons ?_ | refine z_tup ?_ | refine z_lst ?_ | refine z_L ?_ | refine z_bi ?_ | refine z_call ?_ | refine z_meth ?_ | refine z_prop ?_ | refine z_fld ?_ | refine z_make ?_ | refine z_not ?_ | refine z_neg ?_ | refine z_bits ?_ | refine t_of ?_ | refine t_not ?_ | refine z_slN ?_ | refine z_oN ?_ | refine z_oS ?_ | refine z_snil ?_ | refine z_seq ?_ | refine z_set ?_ | refine z_own ?_ | refine z_ret ?_ | refine z_retC ?_ | refine z_drop ?_ | refine z_frz ?_ | refine z_app ?_ | refine z_appC ?_ | refine z_putC ?_ | refine z_for ?_ | refine z_lc ?_ | refine z_yes ?_ | refine z_kv ?_ | refine z_ko ?_ | refine z_par ?_ | refine z_unp ?_ | refine z_sfld ?_ | refine z_rg1 ?_ | refine z_rg2 ?_ | refine z_rg3 ?_ | refine z_and ?_ | refine z_or ?_ | refine z_eif ?_ | refine t_and ?_ | refine t_or ?_ | refine z_sif ?_ | refine u_add ?_ | refine u_sub ?_ | refine u_lt ?_ | refine u_le ?_ | refine u_gt ?_ | refine u_ge ?_ | refine u_isN ?_ | refine u_notN ?_ | refine z_par3 ?_ | (with_reducible refine u_mul ?_ ?_; next => first | exact mulC_r (by decide) (by decide) | exact mulC_l (by decide) (by decide) | exact mulC_r (by omega) (by omega) | exact mulC_l (by omega) (by omega)) | (with_reducible refine u_mod ?_ ?_; next => first | decide | assumption | omega) | (with_reducible refine u_div ?_ ?_; next => first | exact divC_s (by decide) (by decide) | exact divC_s (by omega) (by omega)))))
theorem partPt {x : D} (h : Pt x) {st : Sto} : m_is_part [x] st = some (.bl true, st) := by
  obtain ⟨k, n, w, hk, rfl⟩ := h
  rcases hk with rfl | rfl
  · exact part_of
  · exact part_now
theorem partPre {p : List D} {y : D} (h : Pre p) {st : Sto} : m_is_part [.tup (p ++ [y])] st = some (.bl false, st) := by
  rcases h with ⟨k, hk, rfl⟩ | ⟨r, rfl⟩
  · exact part_no (hk.elim .inl fun z => .inr (.inl z))
  · exact part_no (.inr (.inr rfl))
theorem insPre {p : List D} {y z : D} (h : Pre p) {st : Sto} : m_with_inside [.tup (p ++ [y]), z] st = some (.tup (p ++ [z]), st) := by
  rcases h with ⟨k, hk, rfl⟩ | ⟨r, rfl⟩
  · exact inside_ok (.inl rfl)
  · exact inside_ok (.inr rfl)
theorem copiedC : ∀ (d : Nat) (x : D), IsT Nm Nm d x → ∀ f, d + 1 ≤ f → ∀ st : Sto, ∃ y zs, mr_copied_c f [x] st = some (y, st ++ zs) ∧ TC (st ++ zs) d st.length (st.length + zs.length) y x := by
  intro d
  induction d with
  | zero =>
    intro x h f hf st
    obtain ⟨g, rfl⟩ : ∃ g, f = g + 1 := ⟨f - 1, by omega⟩
    rcases isT_cases h with pt | ⟨e, _, _, he, _⟩
    · refine ⟨x, [], ?_, Nat.le_refl _, rfl, pt⟩
      rw [sr_copied_c, List.append_nil]
      refine Ok.eq (z_fn rfl ?_)
      unfold b_copied_c
      bv_omega
      refine Ok.use (partPt pt) ?_
      refine b_t rfl ?_
      bv_omega
      exact ⟨rfl, rfl⟩
    · cases he
  | succ d ih =>
    intro x h f hf st
    obtain ⟨g, rfl⟩ : ∃ g, f = g + 1 := ⟨f - 1, by omega⟩
    rcases isT_cases h with pt | ⟨e, p, xs, he, hp, rfl, h1, h2, hx⟩
    · refine ⟨x, [], ?_, .inl ⟨Nat.le_refl _, rfl, pt⟩⟩
      rw [sr_copied_c, List.append_nil]
      refine Ok.eq (z_fn rfl ?_)
      unfold b_copied_c
      bv_omega
      refine Ok.use (partPt pt) ?_
      refine b_t rfl ?_
      bv_omega
      exact ⟨rfl, rfl⟩
    · cases he
      obtain ⟨ys, zs, ec, lc, t⟩ := compCel (r := mr_copied_c g) (d := d) (e1 := .tup (p ++ [.lst xs])) rfl (fun x hx st => ih x hx g (by omega) st) xs st noChk (fun _ => rfl) hx
      refine ⟨.tup (p ++ [.cell (st ++ zs).length]), zs ++ [ys], ?_, TC.node (lo := 0) hp t⟩
      rw [sr_copied_c]
      refine Ok.eq (z_fn rfl ?_)
      unfold b_copied_c
      bv_omega
      refine Ok.use (partPre hp) ?_
      refine b_f rfl ?_
      bv_omega
      refine z_cel ?_
      bv_omega
      refine z_seqW ?_
      bv_omega
      refine u_ixT (hp.last _) ?_
      refine ⟨xs, .inl rfl, by show xs.length ≤ 1000000; omega, ?_⟩
      refine Ok.use ec ?_
      bv_omega
      refine Ok.use (insPre hp) ?_
      exact ⟨rfl, List.append_assoc _ _ _⟩
/-! ### what stands in cells is a term -/
theorem TCL.len {R : Nat → Nat → D → D → Prop} : ∀ {ys xs : List D} {lo hi : Nat}, TCL R lo hi ys xs → ys.length = xs.length
  | [], [], _, _, _ => rfl
  | y :: ys, x :: xs, _, _, ⟨m, _, t⟩ => by rw [List.length_cons, List.length_cons, TCL.len t]
  | [], _ :: _, _, _, t => t.elim
  | _ :: _, [], _, _, t => t.elim
theorem TCL.mem {R : Nat → Nat → D → D → Prop} : ∀ {ys xs : List D} {lo hi : Nat} {y : D}, TCL R lo hi ys xs → y ∈ ys → ∃ x ∈ xs, ∃ l h, R l h y x
  | y :: ys, x :: xs, lo, hi, z, ⟨m, t1, t2⟩, hz => by
    rcases List.mem_cons.mp hz with rfl | hz
    · exact ⟨x, by simp, _, _, t1⟩
    · obtain ⟨x', hx, r⟩ := TCL.mem t2 hz
      exact ⟨x', by simp [hx], r⟩
  | [], [], _, _, _, _, hz => by cases hz
  | [], _ :: _, _, _, _, t, _ => t.elim
  | _ :: _, [], _, _, _, t, _ => t.elim
/-- the node of a term: its head fits its list -/
theorem isTPre {p : List D} {xs : List D} {d : Nat} (hp : Pre p) (h : IsT Nm Nm (d + 1) (.tup (p ++ [.lst xs]))) {f : Nat} {st : Sto} {y : D} {ys : List D} (hy : LR st y ys) (hl : ys.length = xs.length) (ha : mr_are_terms f [y] st = some (.bl true, st)) : mr_is_term (f + 1) [.tup (p ++ [y])] st = some (.bl true, st) := by
  rcases hp with ⟨k, hk, rfl⟩ | ⟨r, rfl⟩
  · exact isT_node hk ha
  · have h : IsT Nm Nm (d + 1) (.tup [.str "rank", .int r, .lst xs]) := h
    cases h with
    | rank h1 h2 h3 h =>
      have := isT_rank (r := r) (n := ys.length) ha (fun _ => by
        unfold gLen
        have e := hy.read
        rcases hy with rfl | ⟨k, rfl, e2⟩
        · rfl
        · show (match lstR st (.cell k) with | some xs => some (D.int (xs.length : Nat)) | none => none) = _
          rw [e])
      rw [decide_eq_true h1, decide_eq_true (by rw [hl]; exact h2)] at this
      exact this
theorem isT_TC : ∀ (d : Nat) (x y : D) (st : Sto) (lo hi : Nat), IsT Nm Nm d x → TC st d lo hi y x → ∀ f, 2 * d + 1 ≤ f → mr_is_term f [y] st = some (.bl true, st) := by
  have pt : ∀ (d : Nat) (x y : D), IsT Nm Nm d x → y = x ∧ Pt x → ∀ f st, 1 ≤ f → mr_is_term f [y] st = some (.bl true, st) := fun d x y h hy f st hf => by
    obtain ⟨rfl, k, n, w, hk, rfl⟩ := hy
    obtain ⟨g, rfl⟩ : ∃ g, f = g + 1 := ⟨f - 1, by omega⟩
    refine isT_of hk ?_
    cases h with
    | of h => exact h
    | now h => exact h
  intro d
  induction d with
  | zero => exact fun x y st lo hi h t f hf => pt 0 x y h t.2 f st (by omega)
  | succ d ih =>
    intro x y st lo hi h t f hf
    rcases t with t | ⟨p, j, ys, xs, hp, rfl, rfl, h1, h2, h3, t⟩
    · exact pt _ x y h t.2 f st (by omega)
    · obtain ⟨g, rfl⟩ : ∃ g, f = g + 2 := ⟨f - 2, by omega⟩
      have hx : (1 ≤ xs.length ∧ xs.length ≤ 100) ∧ ∀ z ∈ xs, IsT Nm Nm d z := by
        rcases hp with ⟨k, hk, rfl⟩ | ⟨r, rfl⟩
        · have h : IsT Nm Nm (d + 1) (.tup [.str k, .lst xs]) := h
          cases h with
          | node _ h1 h2 h => exact ⟨⟨h1, h2⟩, h⟩
        · have h : IsT Nm Nm (d + 1) (.tup [.str "rank", .int r, .lst xs]) := h
          cases h with
          | rank h1 h2 h3 h => exact ⟨⟨by omega, h3⟩, h⟩
      have ll := t.len
      have lr : LR st (.cell j) ys := .inr ⟨j, rfl, h3⟩
      refine isTPre hp h lr ll ?_
      have := areT (f := g) (p := fun _ => true) lr (fun e => by rw [e] at ll; simp at ll; omega) (by omega) fun z hz => by
        obtain ⟨x', hx', l, h', r⟩ := t.mem hz
        exact ih x' z st l h' (hx.2 x' hx') r g (by omega)
      rw [List.all_eq_true.mpr fun _ _ => rfl] at this
      exact this
/-- pure terms -/
theorem isT_pure : ∀ (d : Nat) (x : D), IsT Nm Nm d x → ∀ f st, 2 * d + 1 ≤ f → mr_is_term f [x] st = some (.bl true, st) := by
  intro d
  induction d with
  | zero =>
    intro x h f st hf
    obtain ⟨g, rfl⟩ : ∃ g, f = g + 1 := ⟨f - 1, by omega⟩
    cases h with
    | of h => exact isT_of (.inl rfl) h
    | now h => exact isT_of (.inr rfl) h
  | succ d ih =>
    intro x h f st hf
    rcases isT_cases h with pt | ⟨e, p, xs, he, hp, rfl, h1, h2, hx⟩
    · obtain ⟨k, n, w, hk, rfl⟩ := pt
      obtain ⟨g, rfl⟩ : ∃ g, f = g + 1 := ⟨f - 1, by omega⟩
      cases h with
      | of h => exact isT_of hk h
      | now h => exact isT_of hk h
    · cases he
      obtain ⟨g, rfl⟩ : ∃ g, f = g + 2 := ⟨f - 2, by omega⟩
      have lr : LR st (.lst xs) xs := .inl rfl
      refine isTPre hp h lr rfl ?_
      have := areT (f := g) (p := fun _ => true) lr (fun e => by rw [e] at h1; simp at h1) (by omega) fun z hz => ih z (hx z hz) g st (by omega)
      rw [List.all_eq_true.mpr fun _ _ => rfl] at this
      exact this
/-! ### copied -/
theorem compCopy {r : FM} {st : Sto} {e1 : D} : ∀ (ys xs : List D) (chk : Sto → Bool), chk st = true → ys.length = xs.length → (∀ (i : Nat) y x, ys[i]? = some y → xs[i]? = some x → r [y] st = some (x, st)) → compM chk (asgN 1) bYes (eCall r [] (aCons (eVar 1) aNil)) [.val e1, .un] ys st = some (xs, st)
  | [], [], chk, hc, _, _ => by unfold compM; rw [if_pos hc]
  | y :: ys, x :: xs, chk, hc, hl, h => by
    refine Ok.eq (z_compY hc rfl ?_)
    bv_omega
    refine Ok.use (h 0 y x rfl rfl) ?_
    refine Ok.use (compCopy ys xs chk hc (by simpa using hl) fun i a b ha hb => h (i + 1) a b (by simpa using ha) (by simpa using hb)) ?_
    exact ⟨rfl, rfl⟩
  | [], _ :: _, _, _, hl, _ => by simp at hl
  | _ :: _, [], _, _, hl, _ => by simp at hl
theorem TCL.at {R : Nat → Nat → D → D → Prop} : ∀ {ys xs : List D} {lo hi : Nat} {i : Nat} {y x : D}, TCL R lo hi ys xs → ys[i]? = some y → xs[i]? = some x → ∃ l h, R l h y x
  | y :: ys, x :: xs, lo, hi, 0, _, _, ⟨m, t1, t2⟩, e1, e2 => by
    simp at e1 e2
    subst e1
    subst e2
    exact ⟨_, _, t1⟩
  | y :: ys, x :: xs, lo, hi, i + 1, _, _, ⟨m, t1, t2⟩, e1, e2 => TCL.at t2 (by simpa using e1) (by simpa using e2)
  | [], [], _, _, _, _, _, _, e1, _ => by simp at e1
  | [], _ :: _, _, _, _, _, _, t, _, _ => t.elim
  | _ :: _, [], _, _, _, _, _, t, _, _ => t.elim
theorem copied_TC : ∀ (d : Nat) (x y : D) (st : Sto) (lo hi : Nat), TC st d lo hi y x → IsT Nm Nm d x → ∀ f, d + 1 ≤ f → mr_copied f [y] st = some (x, st) := by
  have pt : ∀ (x y : D), y = x ∧ Pt x → ∀ f st, 1 ≤ f → mr_copied f [y] st = some (x, st) := fun x y hy f st hf => by
    obtain ⟨rfl, pt⟩ := hy
    obtain ⟨g, rfl⟩ : ∃ g, f = g + 1 := ⟨f - 1, by omega⟩
    rw [sr_copied]
    refine Ok.eq (z_fn rfl ?_)
    unfold b_copied
    bv_omega
    refine Ok.use (partPt pt) ?_
    refine b_t rfl ?_
    bv_omega
    exact ⟨rfl, rfl⟩
  intro d
  induction d with
  | zero => exact fun x y st lo hi t h f hf => pt x y t.2 f st (by omega)
  | succ d ih =>
    intro x y st lo hi t h f hf
    rcases t with t | ⟨p, j, ys, xs, hp, rfl, rfl, h1, h2, h3, t⟩
    · exact pt x y t.2 f st (by omega)
    · obtain ⟨g, rfl⟩ : ∃ g, f = g + 1 := ⟨f - 1, by omega⟩
      have hx : xs.length ≤ 100 ∧ ∀ z ∈ xs, IsT Nm Nm d z := by
        rcases hp with ⟨k, hk, rfl⟩ | ⟨r, rfl⟩
        · have h : IsT Nm Nm (d + 1) (.tup [.str k, .lst xs]) := h
          cases h with
          | node _ h1 h2 h => exact ⟨h2, h⟩
        · have h : IsT Nm Nm (d + 1) (.tup [.str "rank", .int r, .lst xs]) := h
          cases h with
          | rank h1 h2 h3 h => exact ⟨h3, h⟩
      have ll := t.len
      rw [sr_copied]
      refine Ok.eq (z_fn rfl ?_)
      unfold b_copied
      bv_omega
      refine Ok.use (partPre hp) ?_
      refine b_f rfl ?_
      bv_omega
      refine z_seqLR ?_
      bv_omega
      refine u_ixT (hp.last _) ?_
      refine ⟨ys, .inr ⟨j, rfl, h3⟩, fun chk hc => ⟨by show ys.length ≤ 1000000; omega, ?_⟩⟩
      refine Ok.use (compCopy ys xs chk hc ll fun i a b ha hb => ?_) ?_
      · obtain ⟨l, h', r⟩ := t.at ha hb
        have ib := hx.2 b (List.mem_of_getElem? hb)
        exact ih b a st l h' r ib g (by omega)
      · bv_omega
        refine Ok.use (insPre hp) ?_
        exact ⟨rfl, rfl⟩
end K02

namespace K02
open PySem L2 LW
local macro_rules | `(tactic| bv_omega) => `(tactic| (repeat (first | with_reducible first | refine z_var (by with_unfolding_all rfl) ?_ | refine z_pk (by with_unfolding_all rfl) ?_ | refine z_pkO (by with_unfolding_all rfl) ?_ | refine z_retO (by with_unfolding_all rfl) ?_ | refine z_c ?_ | refine z_op ?_ | refine z_nil ?_ | refine z_cons ?_ | refine z_tup ?_ | refine z_lst ?_ | refine z_L ?_ | refine z_bi ?_ | refine z_call ?_ | refine z_meth ?_ | refine z_prop ?_ | refine z_fld ?_ | refine z_make ?_ | refine z_not ?_ | refine z_neg ?_ | refine z_bits ?_ | refine t_of ?_ | refine t_not ?_ | refine z_slN ?_ | refine z_oN ?_ | refine z_oS ?_ | refine z_snil ?_ | refine z_seq ?_ | refine z_set ?_ | refine z_own ?_ | refine z_ret ?_ | refine z_retC ?_ | refine z_drop ?_ | refine z_frz ?_ | refine z_app ?_ | refine z_appC ?_ | refine z_putC ?_ | refine z_for ?_ | refine z_lc ?_ | refine z_yes ?_ | refine z_kv ?_ | refine z_ko ?_ | refine z_par ?_ | refine z_unp ?_ | refine z_sfld ?_ | refine z_rg1 ?_ | refine z_rg2 ?_ | refine z_rg3 ?_ | refine z_and ?_ | refine z_or ?_ | refine z_eif ?_ | refine t_and ?_ | refine t_or ?_ | refine z_sif ?_ | refine u_add ?_ | refine u_sub ?_ | refine u_lt ?_ | refine u_le ?_ | refine u_gt ?_ | refine u_ge ?_ | refine u_isN ?_ | refine u_notN ?_ | refine z_par3 ?_ | (with_reducible refine u_mul ?_ ?_; next => first | exact mulC_r (by decide) (by decide) | exact mulC_l (by decide) (by decide) | exact mulC_r (by omega) (by omega) | exact mulC_l (by omega) (by omega)) | (with_reducible refine u_mod ?_ ?_; next => first | decide | assumption | omega) | (with_reducible refine u_div ?_ ?_; next => first | exact divC_s (by decide) (by decide) | exact divC_s (by omega) (by omega)))))
/-! ### spoilt: only the term's own cells change -/
noncomputable abbrev sbody (f : Nat) : SS := (sIf (bOf (eOp oNotN (ePeek 1) (eC .non)))
  (sDrop (eCall (mr__law_spoilt f) [] (aCons (eVar 1) (aNil))))
  (sNil))
def Out (lo hi : Nat) (s s' : Sto) : Prop := s'.length = s.length ∧ ∀ i, (i < lo ∨ hi ≤ i) → s'[i]? = s[i]?
theorem Out.refl {lo hi : Nat} {s : Sto} : Out lo hi s s := ⟨rfl, fun _ _ => rfl⟩
theorem Out.trans {lo m hi : Nat} {a b c : Sto} (h1 : Out lo m a b) (h2 : Out m hi b c) (l1 : lo ≤ m) (l2 : m ≤ hi) : Out lo hi a c :=
  ⟨h2.1.trans h1.1, fun i hi' => by rw [h2.2 i (by omega), h1.2 i (by omega)]⟩
theorem TC.notNon {st : Sto} : ∀ {d lo hi : Nat} {y x : D}, TC st d lo hi y x → isNonD y = false
  | 0, _, _, _, _, ⟨_, rfl, k, n, w, _, rfl⟩ => rfl
  | d + 1, _, _, _, _, t => by
    rcases t with ⟨_, rfl, k, n, w, _, rfl⟩ | ⟨p, j, ys, xs, hp, rfl, _⟩
    · rfl
    · rfl
open Classical in
theorem spoiltLoop {f d : Nat} {e0 : D} {j : Nat} {Y : List D} (ih : ∀ (x y : D) (s : Sto) (lo hi : Nat), IsT Nm Nm d x → TC s d lo hi y x → hi ≤ s.length → ∃ s', mr__law_spoilt f [y] s = some (.non, s') ∧ Out lo hi s s') :
    ∀ (ys xs : List D) (m : Nat) (s : Sto) (p1 : Sl), (∀ x ∈ xs, IsT Nm Nm d x) → j < s.length → s[j]? = some Y → TCL (TC s d) m j ys xs → Ok (loopM (fun st : Sto => decide (st[j]? = some Y)) (asgN 1) (sbody f) ys [.val e0, p1] s) fun o s' => Out m j s s' ∧ ∃ p1, o = .nx [.val e0, p1]
  | [], [], m, s, p1, hx, hj, hs, t => z_loopN (by simpa using hs) ⟨Out.refl, _, rfl⟩
  | y :: ys, x :: xs, m, s, p1, hx, hj, hs, ⟨m2, t1, t2⟩ => by
    have l1 := t1.le
    have l2 := TCL.le (fun _ _ _ _ z => z.le) t2
    obtain ⟨s1, e1, o1⟩ := ih x y s m m2 (hx x (by simp)) t1 (by omega)
    refine z_loopC (by simpa using hs) rfl ?_
    bv_omega
    refine b_t (by rw [t1.notNon]; rfl) ?_
    bv_omega
    refine Ok.use e1 ?_
    have t2' : TCL (TC s1 d) m2 j ys xs := TCL.mono (a := m2) (b := j) (fun _ _ _ _ z => z.le) (fun lo hi y x h1 h2 z => z.mono fun k k1 k2 => o1.2 k (by omega)) (Nat.le_refl _) (Nat.le_refl _) t2
    refine (spoiltLoop ih ys xs m2 s1 _ (fun z hz => hx z (by simp [hz])) (by rw [o1.1]; exact hj) (by rw [o1.2 j (by omega)]; exact hs) t2').mono ?_
    rintro o s' ⟨o2, p1, rfl⟩
    exact ⟨o1.trans o2 l1 l2, p1, rfl⟩
  | [], _ :: _, _, _, _, _, _, _, t => t.elim
  | _ :: _, [], _, _, _, _, _, _, t => t.elim
theorem isT_kids {p xs : List D} {d : Nat} (hp : Pre p) (h : IsT Nm Nm (d + 1) (.tup (p ++ [.lst xs]))) : 1 ≤ xs.length ∧ xs.length ≤ 100 ∧ ∀ z ∈ xs, IsT Nm Nm d z := by
  rcases hp with ⟨k, hk, rfl⟩ | ⟨r, rfl⟩
  · have h : IsT Nm Nm (d + 1) (.tup [.str k, .lst xs]) := h
    cases h with
    | node _ h1 h2 h => exact ⟨h1, h2, h⟩
  · have h : IsT Nm Nm (d + 1) (.tup [.str "rank", .int r, .lst xs]) := h
    cases h with
    | rank h1 h2 h3 h => exact ⟨by omega, h3, h⟩
theorem spoilt_pt {x : D} (h : Pt x) {f : Nat} {s : Sto} : mr__law_spoilt (f + 1) [x] s = some (.non, s) := by
  obtain ⟨k, n, w, hk, rfl⟩ := h
  rw [sr__law_spoilt]
  refine Ok.eq (z_fn rfl ?_)
  unfold b__law_spoilt
  bv_omega
  refine u_ixT rfl ?_
  bv_omega
  refine ⟨by simp, ?_⟩
  refine inW_yes hk ?_
  refine b_f rfl ?_
  bv_omega
  exact ⟨rfl, rfl⟩
theorem spoiltOk : ∀ (d : Nat) (f : Nat), d + 1 ≤ f → ∀ (x y : D) (s : Sto) (lo hi : Nat), IsT Nm Nm d x → TC s d lo hi y x → hi ≤ s.length → ∃ s', mr__law_spoilt f [y] s = some (.non, s') ∧ Out lo hi s s' := by
  intro d
  induction d with
  | zero =>
    intro f hf x y s lo hi h t hh
    obtain ⟨g, rfl⟩ : ∃ g, f = g + 1 := ⟨f - 1, by omega⟩
    obtain ⟨_, rfl, pt⟩ := t
    exact ⟨s, spoilt_pt pt, Out.refl⟩
  | succ d ih =>
    intro f hf x y s lo hi h t hh
    obtain ⟨g, rfl⟩ : ∃ g, f = g + 1 := ⟨f - 1, by omega⟩
    rcases t with ⟨_, rfl, pt⟩ | ⟨p, j, ys, xs, hp, rfl, rfl, h1, h2, h3, t⟩
    · exact ⟨s, spoilt_pt pt, Out.refl⟩
    · obtain ⟨k1, k2, kx⟩ := isT_kids hp h
      have ll := t.len
      obtain ⟨k, hk, kk⟩ := hp.head (.cell j)
      have H : Ok (mr__law_spoilt (g + 1) [.tup (p ++ [.cell j])] s) fun v s' => v = .non ∧ Out lo hi s s' := by
        rw [sr__law_spoilt]
        refine z_fn rfl ?_
        unfold b__law_spoilt
        bv_omega
        refine u_ixT hk ?_
        bv_omega
        refine ⟨by simp, ?_⟩
        refine inW_no kk ?_
        refine b_t rfl ?_
        bv_omega
        refine z_seqWC ?_
        bv_omega
        refine u_ixT (hp.last _) ?_
        refine ⟨j, ys, rfl, h3, ?_⟩
        refine (spoiltLoop (f := g) (d := d) (fun x y s lo hi hx t hh => ih g (by omega) x y s lo hi hx t hh) ys xs lo s _ kx (by omega) h3 t).mono ?_
        rintro o s' ⟨o1, p1, rfl⟩
        bv_omega
        refine u_ixT (hp.last _) ?_
        bv_omega
        refine ⟨ys, by rw [o1.2 j (by omega)]; exact h3, by omega, rfl, by rw [List.length_set]; exact o1.1, fun i hi' => ?_⟩
        rw [List.getElem?_set_ne (by omega)]
        exact o1.2 i (by omega)
      obtain ⟨v, s', e, rfl, o⟩ := H
      exact ⟨s', e, o⟩
end K02

namespace K02
open PySem L2 LW
/-! ### what is told of terms and of cells, as Python data and as a text -/
structure ShA (xs : List PyData) (n : Nat) : Prop where
  sh : PyData.showableAll xs = true
  ln : ((PyData.shownAll xs).map (·.length)).sum ≤ n
  le : (PyData.shownAll xs).length = xs.length
  ok : ∀ t ∈ PyData.shownAll xs, PyData.strOk t = true
theorem ShA.nil : ShA [] 0 := ⟨by unfold PyData.showableAll; rfl, by unfold PyData.shownAll; simp, by unfold PyData.shownAll; rfl, by unfold PyData.shownAll; intro t h; cases h⟩
theorem ShA.cons {x : PyData} {xs : List PyData} {a b : Nat} (h : Sh x a) (t : ShA xs b) : ShA (x :: xs) (a + b) := by
  refine ⟨by unfold PyData.showableAll; rw [h.sh, t.sh]; rfl, ?_, ?_, ?_⟩
  · unfold PyData.shownAll
    rw [List.map_cons, List.sum_cons]
    have := h.ln
    have := t.ln
    omega
  · unfold PyData.shownAll
    rw [List.length_cons, List.length_cons, t.le]
  · unfold PyData.shownAll
    intro z hz
    rcases List.mem_cons.mp hz with rfl | hz
    · exact h.ok
    · exact t.ok z hz
theorem ShA.list {xs : List PyData} {n : Nat} (h : ShA xs n) : Sh (.list xs) (n + 2 * xs.length + 3) := by
  refine ⟨by unfold PyData.showable; exact h.sh, ?_, by unfold PyData.shown; exact strOk_list h.ok⟩
  unfold PyData.shown
  have := listText_len_le (PyData.shownAll xs)
  rw [h.le] at this
  have := h.ln
  omega
theorem ShA.tup {xs : List PyData} {n : Nat} (h : ShA xs n) : Sh (.tuple xs) (n + 2 * xs.length + 3) := by
  refine ⟨by unfold PyData.showable; exact h.sh, ?_, ?_⟩
  · unfold PyData.shown
    have := tupleText_len_le (PyData.shownAll xs)
    rw [h.le] at this
    have := h.ln
    omega
  · unfold PyData.shown tupleText
    refine strOk_app (strOk_app (strOk_of _) (strOk_join (strOk_of _) _ h.ok)) ?_
    split <;> exact strOk_of _
abbrev wB (d : Nat) : Nat := 300 + 200 * d
theorem sh_pt {k n : Str} {w : Int} (hk : k = "of" ∨ k = "now") (hn : Nm n) (hw : w.natAbs < 10 ^ 12) : (∀ st m, toPy (2 + m) st (.tup [.str k, .str n, .int w]) = some (.tuple [.str k, .str n, .int w])) ∧ Sh (.tuple [.str k, .str n, .int w]) 300 := by
  have ok : PyData.strOk k = true := by rcases hk with rfl | rfl <;> exact strOk_w _
  have sk : Sh (.str k) 32 := by
    rcases hk with rfl | rfl
    · exact sh_mono (sh_str (strOk_w _)) (by decide)
    · exact sh_mono (sh_str (strOk_w _)) (by decide)
  have sn : Sh (.str n) 82 := sh_mono (sh_str hn.ok) (by have := hn.hi; omega)
  refine ⟨fun st m => ?_, sh_mono (ShA.tup (ShA.cons sk (ShA.cons sn (ShA.cons (sh_int hw) ShA.nil)))) (by show 32 + (82 + (13 + 0)) + 2 * 3 + 3 ≤ 300; decide)⟩
  rw [show 2 + m = m + 1 + 1 by omega]
  unfold toPy
  dsimp only
  unfold mapO
  rw [py_str ok]
  dsimp only
  unfold mapO
  rw [py_str hn.ok]
  rfl
theorem leaves_pre {p xs : List D} {g : Nat} (hp : Pre p) : leaves (g + 1) (.tup (p ++ [.lst xs])) = xs.flatMap (leaves g) := by
  rcases hp with ⟨k, hk, rfl⟩ | ⟨r, rfl⟩ <;> rfl
theorem toPy_pre {p : List D} (hp : Pre p) (hr : ∀ r, p = [.str "rank", .int r] → r.natAbs < 10 ^ 12) : ∃ q : List PyData, ShA q 100 ∧ q.length ≤ 2 ∧ ∀ (st : Sto) (n : Nat) (y : D) (z : PyData), toPy (n + 1) st y = some z → toPy (n + 2) st (.tup (p ++ [y])) = some (.tuple (q ++ [z])) := by
  rcases hp with ⟨k, hk, rfl⟩ | ⟨r, rfl⟩
  · have ok : PyData.strOk k = true := by rcases hk with rfl | rfl <;> exact strOk_w _
    have sk : Sh (.str k) 52 := by
      rcases hk with rfl | rfl
      · exact sh_mono (sh_str (strOk_w _)) (by decide)
      · exact sh_mono (sh_str (strOk_w _)) (by decide)
    refine ⟨[.str k], ?_, by simp, fun st n y z e => ?_⟩
    · have := ShA.cons sk ShA.nil
      exact ⟨this.sh, Nat.le_trans this.ln (by decide), this.le, this.ok⟩
    · unfold toPy
      dsimp only
      show (match mapO (toPy (n + 1) st) [.str k, y] with
        | some ps => some (PyData.tuple ps)
        | none => none) = _
      unfold mapO
      rw [py_str ok]
      dsimp only
      unfold mapO
      rw [e]
      rfl
  · have sk : Sh (.str "rank") 42 := sh_mono (sh_str (strOk_w _)) (by decide)
    refine ⟨[.str "rank", .int r], ?_, by simp, fun st n y z e => ?_⟩
    · have := ShA.cons sk (ShA.cons (sh_int (hr r rfl)) ShA.nil)
      exact ⟨this.sh, Nat.le_trans this.ln (by decide), this.le, this.ok⟩
    · unfold toPy
      dsimp only
      show (match mapO (toPy (n + 1) st) [.str "rank", .int r, y] with
        | some ps => some (PyData.tuple ps)
        | none => none) = _
      unfold mapO
      rw [py_str (strOk_w "rank")]
      dsimp only
      unfold mapO
      have e1 : toPy (n + 1) st (.int r) = some (.int r) := by unfold toPy; rfl
      rw [e1]
      dsimp only
      unfold mapO
      rw [e]
      rfl
theorem ShA.app {xs ys : List PyData} {a b : Nat} (h : ShA xs a) (t : ShA ys b) : ShA (xs ++ ys) (a + b) := by
  have e : ∀ xs : List PyData, PyData.shownAll (xs ++ ys) = PyData.shownAll xs ++ PyData.shownAll ys := by
    intro xs
    induction xs with
    | nil => unfold PyData.shownAll; rfl
    | cons x xs ih =>
      show PyData.shownAll (x :: (xs ++ ys)) = _
      unfold PyData.shownAll
      rw [ih]
      cases ys <;> simp [PyData.shownAll]
  have e2 : ∀ xs : List PyData, PyData.showableAll (xs ++ ys) = (PyData.showableAll xs && PyData.showableAll ys) := by
    intro xs
    induction xs with
    | nil => simp [PyData.showableAll]
    | cons x xs ih =>
      show PyData.showableAll (x :: (xs ++ ys)) = _
      simp only [PyData.showableAll, ih, Bool.and_assoc]
  refine ⟨by rw [e2, h.sh, t.sh]; rfl, ?_, ?_, ?_⟩
  · rw [e, List.map_append, List.sum_append]
    have := h.ln
    have := t.ln
    omega
  · rw [e, List.length_append, List.length_append, h.le, t.le]
  · rw [e]
    intro z hz
    rcases List.mem_append.mp hz with hz | hz
    · exact h.ok z hz
    · exact t.ok z hz
theorem py_kids {d g : Nat} (ih : ∀ x, IsT Nm Nm d x → (∀ l ∈ leaves g x, l.2.2.natAbs < 10 ^ 12) → 1 ≤ (leaves g x).length ∧ ∃ p, (∀ st m, toPy (2 * d + 2 + m) st x = some p) ∧ Sh p ((leaves g x).length * wB d)) :
    ∀ xs : List D, (∀ x ∈ xs, IsT Nm Nm d x) → (∀ l ∈ xs.flatMap (leaves g), l.2.2.natAbs < 10 ^ 12) → xs.length ≤ (xs.flatMap (leaves g)).length ∧ ∃ ps, (∀ st m, mapO (toPy (2 * d + 2 + m) st) xs = some ps) ∧ ps.length = xs.length ∧ ShA ps ((xs.flatMap (leaves g)).length * wB d)
  | [], _, _ => ⟨Nat.le_refl _, [], fun _ _ => rfl, rfl, by rw [List.flatMap_nil, List.length_nil, Nat.zero_mul]; exact ShA.nil⟩
  | x :: xs, h, hw => by
    rw [List.flatMap_cons] at hw
    obtain ⟨l1, p, e1, s1⟩ := ih x (h x (by simp)) fun l hl => hw l (List.mem_append_left _ hl)
    obtain ⟨l2, ps, e2, lp, s2⟩ := py_kids ih xs (fun z hz => h z (by simp [hz])) fun l hl => hw l (List.mem_append_right _ hl)
    rw [List.flatMap_cons, List.length_append]
    refine ⟨by rw [List.length_cons]; omega, p :: ps, fun st m => ?_, by rw [List.length_cons, List.length_cons, lp], ?_⟩
    · unfold mapO
      rw [e1, e2]
    · rw [Nat.add_mul]
      exact ShA.cons s1 s2
theorem py_sh : ∀ (d : Nat) (x : D), IsT Nm Nm d x → ∀ f, d + 1 ≤ f → (∀ l ∈ leaves f x, l.2.2.natAbs < 10 ^ 12) → 1 ≤ (leaves f x).length ∧ ∃ p, (∀ st m, toPy (2 * d + 2 + m) st x = some p) ∧ Sh p ((leaves f x).length * wB d) := by
  have pt : ∀ (d : Nat) (x : D), IsT Nm Nm d x → Pt x → ∀ g, (∀ l ∈ leaves (g + 1) x, l.2.2.natAbs < 10 ^ 12) → 1 ≤ (leaves (g + 1) x).length ∧ ∃ p, (∀ st m, toPy (2 * d + 2 + m) st x = some p) ∧ Sh p ((leaves (g + 1) x).length * wB d) := fun d x h hp g hw => by
    obtain ⟨k, n, w, hk, rfl⟩ := hp
    have hn : Nm n := by
      cases h with
      | of h => exact h
      | now h => exact h
    have el : leaves (g + 1) (.tup [.str k, .str n, .int w]) = [(k, n, w)] := rfl
    rw [el] at hw ⊢
    obtain ⟨e, s⟩ := sh_pt hk hn (hw _ (List.mem_singleton.mpr rfl))
    refine ⟨Nat.le_refl _, _, fun st m => ?_, sh_mono s (by show 300 ≤ 1 * (300 + 200 * d); omega)⟩
    rw [show 2 * d + 2 + m = 2 + (2 * d + m) by omega]
    exact e st _
  intro d
  induction d with
  | zero =>
    intro x h f hf hw
    obtain ⟨g, rfl⟩ : ∃ g, f = g + 1 := ⟨f - 1, by omega⟩
    rcases isT_cases h with hp | ⟨e, _, _, he, _⟩
    · exact pt 0 x h hp g hw
    · cases he
  | succ d ih =>
    intro x h f hf hw
    obtain ⟨g, rfl⟩ : ∃ g, f = g + 1 := ⟨f - 1, by omega⟩
    rcases isT_cases h with hp | ⟨e, p, xs, he, hp, rfl, h1, h2, hx⟩
    · exact pt _ x h hp g hw
    · cases he
      rw [leaves_pre hp] at hw ⊢
      obtain ⟨l, ps, ep, lp, sp⟩ := py_kids (fun x hx hw => ih x hx g (by omega) hw) xs hx hw
      have hr : ∀ r, p = [.str "rank", .int r] → r.natAbs < 10 ^ 12 := fun r e => by
        subst e
        have h : IsT Nm Nm (d + 1) (.tup [.str "rank", .int r, .lst xs]) := h
        cases h with
        | rank a b _ _ => omega
      obtain ⟨q, sq, lq, eq⟩ := toPy_pre hp hr
      refine ⟨by omega, .tuple (q ++ [.list ps]), fun st m => ?_, ?_⟩
      · rw [show 2 * (d + 1) + 2 + m = (2 * d + 2 + m) + 2 by omega]
        refine eq st _ _ _ ?_
        unfold toPy
        dsimp only
        rw [ep]
      · refine sh_mono (ShA.tup (ShA.app sq (ShA.cons sp.list ShA.nil))) ?_
        rw [List.length_append, List.length_singleton, lp]
        generalize (xs.flatMap (leaves g)).length = L at l sp ⊢
        have e1 : L * wB (d + 1) = L * wB d + L * 200 := by
          show L * (300 + 200 * (d + 1)) = L * (300 + 200 * d) + L * 200
          rw [← Nat.mul_add]
          congr 1
        rw [e1]
        omega
theorem toPy_TC : ∀ (d : Nat) (x y : D) (st : Sto) (lo hi : Nat), TC st d lo hi y x → ∀ n, toPy n st y = toPy n st x := by
  intro d
  induction d with
  | zero => exact fun x y st lo hi t n => by rw [t.2.1]
  | succ d ih =>
    intro x y st lo hi t n
    rcases t with t | ⟨p, j, ys, xs, hp, rfl, rfl, h1, h2, h3, t⟩
    · rw [t.2.1]
    · have kids : ∀ n, mapO (toPy n st) ys = mapO (toPy n st) xs := by
        intro n
        clear h1 h3
        generalize lo = l at t
        induction ys generalizing xs l with
        | nil =>
          cases xs with
          | nil => rfl
          | cons _ _ => exact t.elim
        | cons y ys ihy =>
          cases xs with
          | nil => exact t.elim
          | cons x xs =>
            obtain ⟨m, t1, t2⟩ := t
            unfold mapO
            rw [ih x y st _ _ t1 n, ihy xs m t2]
      have cel : ∀ n, toPy n st (.cell j) = toPy n st (.lst xs) := by
        intro n
        cases n with
        | zero => rfl
        | succ n =>
          unfold toPy
          dsimp only
          rw [h3]
          dsimp only
          rw [kids]
      cases n with
      | zero => rfl
      | succ n =>
        rcases hp with ⟨k, hk, rfl⟩ | ⟨r, rfl⟩
        · show toPy (n + 1) st (.tup [.str k, .cell j]) = toPy (n + 1) st (.tup [.str k, .lst xs])
          unfold toPy
          dsimp only
          unfold mapO
          unfold mapO
          rw [cel]
        · show toPy (n + 1) st (.tup [.str "rank", .int r, .cell j]) = toPy (n + 1) st (.tup [.str "rank", .int r, .lst xs])
          unfold toPy
          dsimp only
          unfold mapO
          unfold mapO
          unfold mapO
          rw [cel]
end K02

/-! printed by oddgen.py -/
namespace K02
open PySem L2 LW
abbrev ptD (n : Str) : D := .tup [.str "of", .str n, .int 1]
def NotT (v : D) : Prop := ∀ f st, 5 ≤ f → mr_is_term f [v] st = some (.bl false, st)
/-- a thing that is equal to itself, as neY looks -/
def Es (k : Nat) (v : D) : Prop := ∀ n, k ≤ n → eqY n v v = true
theorem pt_is {n : Str} (h : Nm n) (f : Nat) (st : Sto) : mr_is_term (f + 1) [ptD n] st = some (.bl true, st) := isT_of (.inl rfl) h
theorem nt_rank {n : Str} (h : Nm n) {r : Int} (hr : r < 1 ∨ 1 < r) : NotT (.tup [.str "rank", .int r, .lst [ptD n]]) := fun f st hf => by
  obtain ⟨g, rfl⟩ : ∃ g, f = g + 3 := ⟨f - 3, by omega⟩
  have ha := areT (f := g + 1) (st := st) (y := .lst [ptD n]) (p := fun _ => true) (.inl rfl) (by simp) (by show 1 ≤ 1000000; decide) fun z hz => by
    rw [List.mem_singleton.mp hz]
    exact pt_is h g st
  have := isT_rank (r := r) (n := 1) ha (fun _ => rfl)
  have e : (List.all [ptD n] (fun _ => true) && (decide (1 ≤ r) && decide (r ≤ ((1 : Nat) : Int)))) = false := by
    rcases hr with hr | hr
    · rw [decide_eq_false (show ¬ 1 ≤ r by omega)]; rfl
    · rw [decide_eq_false (show ¬ r ≤ ((1 : Nat) : Int) by omega), Bool.and_false, Bool.and_false]
  rw [e] at this
  exact this
theorem nt_two {n : Str} (h : Nm n) : NotT (.tup [.str "last", .lst [ptD n, .lst []]]) := fun f st hf => by
  obtain ⟨g, rfl⟩ : ∃ g, f = g + 3 := ⟨f - 3, by omega⟩
  have ha := areT (f := g + 1) (st := st) (y := .lst [ptD n, .lst []]) (p := fun z => match z with
    | .lst _ => false
    | _ => true) (.inl rfl) (by simp) (by show 2 ≤ 1000000; decide) fun z hz => by
    rcases List.mem_cons.mp hz with rfl | hz
    · exact pt_is h g st
    · rw [List.mem_singleton.mp hz]; rfl
  exact isT_node (.inr rfl) ha
theorem od_0 {n : Str} (h : Nm n) : NotT (.non) := fun f st hf => by
  obtain ⟨g, rfl⟩ : ∃ g, f = g + 5 := ⟨f - 5, by omega⟩
  kernel_rfl
theorem es_0 (n : Str) : Es 10 (.non) := fun m hm => by
  obtain ⟨g, rfl⟩ : ∃ g, m = g + 10 := ⟨m - 10, by omega⟩
  simp [eqY, all2]
theorem od_1 {n : Str} (h : Nm n) : NotT (.int 5) := fun f st hf => by
  obtain ⟨g, rfl⟩ : ∃ g, f = g + 5 := ⟨f - 5, by omega⟩
  kernel_rfl
theorem es_1 (n : Str) : Es 10 (.int 5) := fun m hm => by
  obtain ⟨g, rfl⟩ : ∃ g, m = g + 10 := ⟨m - 10, by omega⟩
  simp [eqY, all2]
theorem od_2 {n : Str} (h : Nm n) : NotT (.bl true) := fun f st hf => by
  obtain ⟨g, rfl⟩ : ∃ g, f = g + 5 := ⟨f - 5, by omega⟩
  kernel_rfl
theorem es_2 (n : Str) : Es 10 (.bl true) := fun m hm => by
  obtain ⟨g, rfl⟩ : ∃ g, m = g + 10 := ⟨m - 10, by omega⟩
  simp [eqY, all2]
theorem od_3 {n : Str} (h : Nm n) : NotT (.str "of") := fun f st hf => by
  obtain ⟨g, rfl⟩ : ∃ g, f = g + 5 := ⟨f - 5, by omega⟩
  kernel_rfl
theorem es_3 (n : Str) : Es 10 (.str "of") := fun m hm => by
  obtain ⟨g, rfl⟩ : ∃ g, m = g + 10 := ⟨m - 10, by omega⟩
  simp [eqY, all2]
theorem od_4 {n : Str} (h : Nm n) : NotT (.tup []) := fun f st hf => by
  obtain ⟨g, rfl⟩ : ∃ g, f = g + 5 := ⟨f - 5, by omega⟩
  kernel_rfl
theorem es_4 (n : Str) : Es 10 (.tup []) := fun m hm => by
  obtain ⟨g, rfl⟩ : ∃ g, m = g + 10 := ⟨m - 10, by omega⟩
  simp [eqY, all2]
theorem od_5 {n : Str} (h : Nm n) : NotT (.lst []) := fun f st hf => by
  obtain ⟨g, rfl⟩ : ∃ g, f = g + 5 := ⟨f - 5, by omega⟩
  kernel_rfl
theorem es_5 (n : Str) : Es 10 (.lst []) := fun m hm => by
  obtain ⟨g, rfl⟩ : ∃ g, m = g + 10 := ⟨m - 10, by omega⟩
  simp [eqY, all2]
theorem od_6 {n : Str} (h : Nm n) : NotT (.dic [] []) := fun f st hf => by
  obtain ⟨g, rfl⟩ : ∃ g, f = g + 5 := ⟨f - 5, by omega⟩
  kernel_rfl
theorem es_6 (n : Str) : Es 10 (.dic [] []) := fun m hm => by
  obtain ⟨g, rfl⟩ : ∃ g, m = g + 10 := ⟨m - 10, by omega⟩
  simp [eqY, all2]
theorem od_7 {n : Str} (h : Nm n) : NotT (.tup [.str "of"]) := fun f st hf => by
  obtain ⟨g, rfl⟩ : ∃ g, f = g + 5 := ⟨f - 5, by omega⟩
  kernel_rfl
theorem es_7 (n : Str) : Es 10 (.tup [.str "of"]) := fun m hm => by
  obtain ⟨g, rfl⟩ : ∃ g, m = g + 10 := ⟨m - 10, by omega⟩
  simp [eqY, all2]
theorem od_8 {n : Str} (h : Nm n) : NotT (.tup [.str "of", .str "a"]) := fun f st hf => by
  obtain ⟨g, rfl⟩ : ∃ g, f = g + 5 := ⟨f - 5, by omega⟩
  kernel_rfl
theorem es_8 (n : Str) : Es 10 (.tup [.str "of", .str "a"]) := fun m hm => by
  obtain ⟨g, rfl⟩ : ∃ g, m = g + 10 := ⟨m - 10, by omega⟩
  simp [eqY, all2]
theorem od_9 {n : Str} (h : Nm n) : NotT (.tup [.str "of", .str "a", .int 1, .int 2]) := fun f st hf => by
  obtain ⟨g, rfl⟩ : ∃ g, f = g + 5 := ⟨f - 5, by omega⟩
  kernel_rfl
theorem es_9 (n : Str) : Es 10 (.tup [.str "of", .str "a", .int 1, .int 2]) := fun m hm => by
  obtain ⟨g, rfl⟩ : ∃ g, m = g + 10 := ⟨m - 10, by omega⟩
  simp [eqY, all2]
theorem od_10 {n : Str} (h : Nm n) : NotT (.tup [.str "of", .str "A", .int 1]) := fun f st hf => by
  obtain ⟨g, rfl⟩ : ∃ g, f = g + 5 := ⟨f - 5, by omega⟩
  kernel_rfl
theorem es_10 (n : Str) : Es 10 (.tup [.str "of", .str "A", .int 1]) := fun m hm => by
  obtain ⟨g, rfl⟩ : ∃ g, m = g + 10 := ⟨m - 10, by omega⟩
  simp [eqY, all2]
theorem od_11 {n : Str} (h : Nm n) : NotT (.tup [.str "of", .str "", .int 0]) := fun f st hf => by
  obtain ⟨g, rfl⟩ : ∃ g, f = g + 5 := ⟨f - 5, by omega⟩
  kernel_rfl
theorem es_11 (n : Str) : Es 10 (.tup [.str "of", .str "", .int 0]) := fun m hm => by
  obtain ⟨g, rfl⟩ : ∃ g, m = g + 10 := ⟨m - 10, by omega⟩
  simp [eqY, all2]
theorem od_12 {n : Str} (h : Nm n) : NotT (.tup [.str "of", .str "abcdefghi", .int 0]) := fun f st hf => by
  obtain ⟨g, rfl⟩ : ∃ g, f = g + 5 := ⟨f - 5, by omega⟩
  kernel_rfl
theorem es_12 (n : Str) : Es 10 (.tup [.str "of", .str "abcdefghi", .int 0]) := fun m hm => by
  obtain ⟨g, rfl⟩ : ∃ g, m = g + 10 := ⟨m - 10, by omega⟩
  simp [eqY, all2]
theorem od_13 {n : Str} (h : Nm n) : NotT (.tup [.str "of", .str "a", .bl true]) := fun f st hf => by
  obtain ⟨g, rfl⟩ : ∃ g, f = g + 5 := ⟨f - 5, by omega⟩
  kernel_rfl
theorem es_13 (n : Str) : Es 10 (.tup [.str "of", .str "a", .bl true]) := fun m hm => by
  obtain ⟨g, rfl⟩ : ∃ g, m = g + 10 := ⟨m - 10, by omega⟩
  simp [eqY, all2]
theorem od_14 {n : Str} (h : Nm n) : NotT (.tup [.str "of", .str "a", .str "1"]) := fun f st hf => by
  obtain ⟨g, rfl⟩ : ∃ g, f = g + 5 := ⟨f - 5, by omega⟩
  kernel_rfl
theorem es_14 (n : Str) : Es 10 (.tup [.str "of", .str "a", .str "1"]) := fun m hm => by
  obtain ⟨g, rfl⟩ : ∃ g, m = g + 10 := ⟨m - 10, by omega⟩
  simp [eqY, all2]
theorem od_15 {n : Str} (h : Nm n) : NotT (.tup [.str "of", .str "a", .non]) := fun f st hf => by
  obtain ⟨g, rfl⟩ : ∃ g, f = g + 5 := ⟨f - 5, by omega⟩
  kernel_rfl
theorem es_15 (n : Str) : Es 10 (.tup [.str "of", .str "a", .non]) := fun m hm => by
  obtain ⟨g, rfl⟩ : ∃ g, m = g + 10 := ⟨m - 10, by omega⟩
  simp [eqY, all2]
theorem od_16 {n : Str} (h : Nm n) : NotT (.tup [.str "of", .str "a", .tup [.int 1]]) := fun f st hf => by
  obtain ⟨g, rfl⟩ : ∃ g, f = g + 5 := ⟨f - 5, by omega⟩
  kernel_rfl
theorem es_16 (n : Str) : Es 10 (.tup [.str "of", .str "a", .tup [.int 1]]) := fun m hm => by
  obtain ⟨g, rfl⟩ : ∃ g, m = g + 10 := ⟨m - 10, by omega⟩
  simp [eqY, all2]
theorem od_17 {n : Str} (h : Nm n) : NotT (.tup [.str "of", .int 1, .int 1]) := fun f st hf => by
  obtain ⟨g, rfl⟩ : ∃ g, f = g + 5 := ⟨f - 5, by omega⟩
  kernel_rfl
theorem es_17 (n : Str) : Es 10 (.tup [.str "of", .int 1, .int 1]) := fun m hm => by
  obtain ⟨g, rfl⟩ : ∃ g, m = g + 10 := ⟨m - 10, by omega⟩
  simp [eqY, all2]
theorem od_18 {n : Str} (h : Nm n) : NotT (.lst [.str "of", .str "a", .int 1]) := fun f st hf => by
  obtain ⟨g, rfl⟩ : ∃ g, f = g + 5 := ⟨f - 5, by omega⟩
  kernel_rfl
theorem es_18 (n : Str) : Es 10 (.lst [.str "of", .str "a", .int 1]) := fun m hm => by
  obtain ⟨g, rfl⟩ : ∃ g, m = g + 10 := ⟨m - 10, by omega⟩
  simp [eqY, all2]
theorem od_19 {n : Str} (h : Nm n) : NotT (.tup [.str "first"]) := fun f st hf => by
  obtain ⟨g, rfl⟩ : ∃ g, f = g + 5 := ⟨f - 5, by omega⟩
  kernel_rfl
theorem es_19 (n : Str) : Es 10 (.tup [.str "first"]) := fun m hm => by
  obtain ⟨g, rfl⟩ : ∃ g, m = g + 10 := ⟨m - 10, by omega⟩
  simp [eqY, all2]
theorem od_20 {n : Str} (h : Nm n) : NotT (.tup [.str "first", .lst []]) := fun f st hf => by
  obtain ⟨g, rfl⟩ : ∃ g, f = g + 5 := ⟨f - 5, by omega⟩
  kernel_rfl
theorem es_20 (n : Str) : Es 10 (.tup [.str "first", .lst []]) := fun m hm => by
  obtain ⟨g, rfl⟩ : ∃ g, m = g + 10 := ⟨m - 10, by omega⟩
  simp [eqY, all2]
theorem od_21 {n : Str} (h : Nm n) : NotT (.tup [.str "first", .tup []]) := fun f st hf => by
  obtain ⟨g, rfl⟩ : ∃ g, f = g + 5 := ⟨f - 5, by omega⟩
  kernel_rfl
theorem es_21 (n : Str) : Es 10 (.tup [.str "first", .tup []]) := fun m hm => by
  obtain ⟨g, rfl⟩ : ∃ g, m = g + 10 := ⟨m - 10, by omega⟩
  simp [eqY, all2]
theorem od_22 {n : Str} (h : Nm n) : NotT (.tup [.str "first", .tup [ptD n]]) := fun f st hf => by
  obtain ⟨g, rfl⟩ : ∃ g, f = g + 5 := ⟨f - 5, by omega⟩
  kernel_rfl
theorem es_22 (n : Str) : Es 10 (.tup [.str "first", .tup [ptD n]]) := fun m hm => by
  obtain ⟨g, rfl⟩ : ∃ g, m = g + 10 := ⟨m - 10, by omega⟩
  simp [eqY, all2]
theorem od_23 {n : Str} (h : Nm n) : NotT (.tup [.str "first", ptD n]) := fun f st hf => by
  obtain ⟨g, rfl⟩ : ∃ g, f = g + 5 := ⟨f - 5, by omega⟩
  kernel_rfl
theorem es_23 (n : Str) : Es 10 (.tup [.str "first", ptD n]) := fun m hm => by
  obtain ⟨g, rfl⟩ : ∃ g, m = g + 10 := ⟨m - 10, by omega⟩
  simp [eqY, all2]
theorem od_24 {n : Str} (h : Nm n) : NotT (.tup [.str "first", .lst [ptD n], .lst []]) := fun f st hf => by
  obtain ⟨g, rfl⟩ : ∃ g, f = g + 5 := ⟨f - 5, by omega⟩
  kernel_rfl
theorem es_24 (n : Str) : Es 10 (.tup [.str "first", .lst [ptD n], .lst []]) := fun m hm => by
  obtain ⟨g, rfl⟩ : ∃ g, m = g + 10 := ⟨m - 10, by omega⟩
  simp [eqY, all2]
theorem od_25 {n : Str} (h : Nm n) : NotT (.tup [.str "last", .lst [.non]]) := fun f st hf => by
  obtain ⟨g, rfl⟩ : ∃ g, f = g + 5 := ⟨f - 5, by omega⟩
  kernel_rfl
theorem es_25 (n : Str) : Es 10 (.tup [.str "last", .lst [.non]]) := fun m hm => by
  obtain ⟨g, rfl⟩ : ∃ g, m = g + 10 := ⟨m - 10, by omega⟩
  simp [eqY, all2]
theorem od_26 {n : Str} (h : Nm n) : NotT (.tup [.str "last", .non]) := fun f st hf => by
  obtain ⟨g, rfl⟩ : ∃ g, f = g + 5 := ⟨f - 5, by omega⟩
  kernel_rfl
theorem es_26 (n : Str) : Es 10 (.tup [.str "last", .non]) := fun m hm => by
  obtain ⟨g, rfl⟩ : ∃ g, m = g + 10 := ⟨m - 10, by omega⟩
  simp [eqY, all2]
theorem od_27 {n : Str} (h : Nm n) : NotT (.tup [.str "last", .dic [.inr "a"] [ptD n]]) := fun f st hf => by
  obtain ⟨g, rfl⟩ : ∃ g, f = g + 5 := ⟨f - 5, by omega⟩
  kernel_rfl
theorem es_27 (n : Str) : Es 10 (.tup [.str "last", .dic [.inr "a"] [ptD n]]) := fun m hm => by
  obtain ⟨g, rfl⟩ : ∃ g, m = g + 10 := ⟨m - 10, by omega⟩
  simp [eqY, all2]
theorem od_28 {n : Str} (h : Nm n) : NotT (.tup [.str "rank", .lst [ptD n]]) := fun f st hf => by
  obtain ⟨g, rfl⟩ : ∃ g, f = g + 5 := ⟨f - 5, by omega⟩
  kernel_rfl
theorem es_28 (n : Str) : Es 10 (.tup [.str "rank", .lst [ptD n]]) := fun m hm => by
  obtain ⟨g, rfl⟩ : ∃ g, m = g + 10 := ⟨m - 10, by omega⟩
  simp [eqY, all2]
theorem od_29 {n : Str} (h : Nm n) : NotT (.tup [.str "rank", .int 0, .lst [ptD n]]) := nt_rank h (by decide)
theorem es_29 (n : Str) : Es 10 (.tup [.str "rank", .int 0, .lst [ptD n]]) := fun m hm => by
  obtain ⟨g, rfl⟩ : ∃ g, m = g + 10 := ⟨m - 10, by omega⟩
  simp [eqY, all2]
theorem od_30 {n : Str} (h : Nm n) : NotT (.tup [.str "rank", .int 2, .lst [ptD n]]) := nt_rank h (by decide)
theorem es_30 (n : Str) : Es 10 (.tup [.str "rank", .int 2, .lst [ptD n]]) := fun m hm => by
  obtain ⟨g, rfl⟩ : ∃ g, m = g + 10 := ⟨m - 10, by omega⟩
  simp [eqY, all2]
theorem od_31 {n : Str} (h : Nm n) : NotT (.tup [.str "rank", .bl true, .lst [ptD n]]) := fun f st hf => by
  obtain ⟨g, rfl⟩ : ∃ g, f = g + 5 := ⟨f - 5, by omega⟩
  kernel_rfl
theorem es_31 (n : Str) : Es 10 (.tup [.str "rank", .bl true, .lst [ptD n]]) := fun m hm => by
  obtain ⟨g, rfl⟩ : ∃ g, m = g + 10 := ⟨m - 10, by omega⟩
  simp [eqY, all2]
theorem od_32 {n : Str} (h : Nm n) : NotT (.tup [.str "rank", .str "1", .lst [ptD n]]) := fun f st hf => by
  obtain ⟨g, rfl⟩ : ∃ g, f = g + 5 := ⟨f - 5, by omega⟩
  kernel_rfl
theorem es_32 (n : Str) : Es 10 (.tup [.str "rank", .str "1", .lst [ptD n]]) := fun m hm => by
  obtain ⟨g, rfl⟩ : ∃ g, m = g + 10 := ⟨m - 10, by omega⟩
  simp [eqY, all2]
theorem od_33 {n : Str} (h : Nm n) : NotT (.tup [.str "rank", .int 1, .lst []]) := fun f st hf => by
  obtain ⟨g, rfl⟩ : ∃ g, f = g + 5 := ⟨f - 5, by omega⟩
  kernel_rfl
theorem es_33 (n : Str) : Es 10 (.tup [.str "rank", .int 1, .lst []]) := fun m hm => by
  obtain ⟨g, rfl⟩ : ∃ g, m = g + 10 := ⟨m - 10, by omega⟩
  simp [eqY, all2]
theorem od_34 {n : Str} (h : Nm n) : NotT (.tup [.str "rank", .int 1, .tup [ptD n]]) := fun f st hf => by
  obtain ⟨g, rfl⟩ : ∃ g, f = g + 5 := ⟨f - 5, by omega⟩
  kernel_rfl
theorem es_34 (n : Str) : Es 10 (.tup [.str "rank", .int 1, .tup [ptD n]]) := fun m hm => by
  obtain ⟨g, rfl⟩ : ∃ g, m = g + 10 := ⟨m - 10, by omega⟩
  simp [eqY, all2]
theorem od_35 {n : Str} (h : Nm n) : NotT (.tup [.str "rank", .lst [ptD n], .int 1]) := fun f st hf => by
  obtain ⟨g, rfl⟩ : ∃ g, f = g + 5 := ⟨f - 5, by omega⟩
  kernel_rfl
theorem es_35 (n : Str) : Es 10 (.tup [.str "rank", .lst [ptD n], .int 1]) := fun m hm => by
  obtain ⟨g, rfl⟩ : ∃ g, m = g + 10 := ⟨m - 10, by omega⟩
  simp [eqY, all2]
theorem od_36 {n : Str} (h : Nm n) : NotT (.tup [.str "rank", .int (-1), .lst [ptD n]]) := nt_rank h (by decide)
theorem es_36 (n : Str) : Es 10 (.tup [.str "rank", .int (-1), .lst [ptD n]]) := fun m hm => by
  obtain ⟨g, rfl⟩ : ∃ g, m = g + 10 := ⟨m - 10, by omega⟩
  simp [eqY, all2]
theorem od_37 {n : Str} (h : Nm n) : NotT (.tup [.str "middle", .lst [ptD n]]) := fun f st hf => by
  obtain ⟨g, rfl⟩ : ∃ g, f = g + 5 := ⟨f - 5, by omega⟩
  kernel_rfl
theorem es_37 (n : Str) : Es 10 (.tup [.str "middle", .lst [ptD n]]) := fun m hm => by
  obtain ⟨g, rfl⟩ : ∃ g, m = g + 10 := ⟨m - 10, by omega⟩
  simp [eqY, all2]
theorem od_38 {n : Str} (h : Nm n) : NotT (.tup [.int 5, .lst [ptD n]]) := fun f st hf => by
  obtain ⟨g, rfl⟩ : ∃ g, f = g + 5 := ⟨f - 5, by omega⟩
  kernel_rfl
theorem es_38 (n : Str) : Es 10 (.tup [.int 5, .lst [ptD n]]) := fun m hm => by
  obtain ⟨g, rfl⟩ : ∃ g, m = g + 10 := ⟨m - 10, by omega⟩
  simp [eqY, all2]
theorem od_39 {n : Str} (h : Nm n) : NotT (.tup [.tup [.str "of"], .str "a", .int 1]) := fun f st hf => by
  obtain ⟨g, rfl⟩ : ∃ g, f = g + 5 := ⟨f - 5, by omega⟩
  kernel_rfl
theorem es_39 (n : Str) : Es 10 (.tup [.tup [.str "of"], .str "a", .int 1]) := fun m hm => by
  obtain ⟨g, rfl⟩ : ∃ g, m = g + 10 := ⟨m - 10, by omega⟩
  simp [eqY, all2]
theorem od_40 {n : Str} (h : Nm n) : NotT (.tup [.str "now", .str "a b", .int 1]) := fun f st hf => by
  obtain ⟨g, rfl⟩ : ∃ g, f = g + 5 := ⟨f - 5, by omega⟩
  kernel_rfl
theorem es_40 (n : Str) : Es 10 (.tup [.str "now", .str "a b", .int 1]) := fun m hm => by
  obtain ⟨g, rfl⟩ : ∃ g, m = g + 10 := ⟨m - 10, by omega⟩
  simp [eqY, all2]
theorem od_41 {n : Str} (h : Nm n) : NotT (.tup [.str "Of", .str "a", .int 1]) := fun f st hf => by
  obtain ⟨g, rfl⟩ : ∃ g, f = g + 5 := ⟨f - 5, by omega⟩
  kernel_rfl
theorem es_41 (n : Str) : Es 10 (.tup [.str "Of", .str "a", .int 1]) := fun m hm => by
  obtain ⟨g, rfl⟩ : ∃ g, m = g + 10 := ⟨m - 10, by omega⟩
  simp [eqY, all2]
theorem od_42 {n : Str} (h : Nm n) : NotT (.tup [.str "of", .non, .int 1]) := fun f st hf => by
  obtain ⟨g, rfl⟩ : ∃ g, f = g + 5 := ⟨f - 5, by omega⟩
  kernel_rfl
theorem es_42 (n : Str) : Es 10 (.tup [.str "of", .non, .int 1]) := fun m hm => by
  obtain ⟨g, rfl⟩ : ∃ g, m = g + 10 := ⟨m - 10, by omega⟩
  simp [eqY, all2]
theorem od_43 {n : Str} (h : Nm n) : NotT (.lst [.str "first", .lst [ptD n]]) := fun f st hf => by
  obtain ⟨g, rfl⟩ : ∃ g, f = g + 5 := ⟨f - 5, by omega⟩
  kernel_rfl
theorem es_43 (n : Str) : Es 10 (.lst [.str "first", .lst [ptD n]]) := fun m hm => by
  obtain ⟨g, rfl⟩ : ∃ g, m = g + 10 := ⟨m - 10, by omega⟩
  simp [eqY, all2]
theorem od_44 {n : Str} (h : Nm n) : NotT (.tup [.str "rank", .int 1, .lst [ptD n], .int 1]) := fun f st hf => by
  obtain ⟨g, rfl⟩ : ∃ g, f = g + 5 := ⟨f - 5, by omega⟩
  kernel_rfl
theorem es_44 (n : Str) : Es 10 (.tup [.str "rank", .int 1, .lst [ptD n], .int 1]) := fun m hm => by
  obtain ⟨g, rfl⟩ : ∃ g, m = g + 10 := ⟨m - 10, by omega⟩
  simp [eqY, all2]
theorem od_45 {n : Str} (h : Nm n) : NotT (.tup [.str "last", .lst []]) := fun f st hf => by
  obtain ⟨g, rfl⟩ : ∃ g, f = g + 5 := ⟨f - 5, by omega⟩
  kernel_rfl
theorem es_45 (n : Str) : Es 10 (.tup [.str "last", .lst []]) := fun m hm => by
  obtain ⟨g, rfl⟩ : ∃ g, m = g + 10 := ⟨m - 10, by omega⟩
  simp [eqY, all2]
theorem od_46 {n : Str} (h : Nm n) : NotT (.tup [.str "last"]) := fun f st hf => by
  obtain ⟨g, rfl⟩ : ∃ g, f = g + 5 := ⟨f - 5, by omega⟩
  kernel_rfl
theorem es_46 (n : Str) : Es 10 (.tup [.str "last"]) := fun m hm => by
  obtain ⟨g, rfl⟩ : ∃ g, m = g + 10 := ⟨m - 10, by omega⟩
  simp [eqY, all2]
theorem od_47 {n : Str} (h : Nm n) : NotT (.tup [.str "last", .tup [ptD n]]) := fun f st hf => by
  obtain ⟨g, rfl⟩ : ∃ g, f = g + 5 := ⟨f - 5, by omega⟩
  kernel_rfl
theorem es_47 (n : Str) : Es 10 (.tup [.str "last", .tup [ptD n]]) := fun m hm => by
  obtain ⟨g, rfl⟩ : ∃ g, m = g + 10 := ⟨m - 10, by omega⟩
  simp [eqY, all2]
theorem od_48 {n : Str} (h : Nm n) : NotT (.tup [.str "of", .str "a\n", .int 0]) := fun f st hf => by
  obtain ⟨g, rfl⟩ : ∃ g, f = g + 5 := ⟨f - 5, by omega⟩
  kernel_rfl
theorem es_48 (n : Str) : Es 10 (.tup [.str "of", .str "a\n", .int 0]) := fun m hm => by
  obtain ⟨g, rfl⟩ : ∃ g, m = g + 10 := ⟨m - 10, by omega⟩
  simp [eqY, all2]
theorem od_49 {n : Str} (h : Nm n) : NotT (.tup [.str "now", .str "\na", .int 0]) := fun f st hf => by
  obtain ⟨g, rfl⟩ : ∃ g, f = g + 5 := ⟨f - 5, by omega⟩
  kernel_rfl
theorem es_49 (n : Str) : Es 10 (.tup [.str "now", .str "\na", .int 0]) := fun m hm => by
  obtain ⟨g, rfl⟩ : ∃ g, m = g + 10 := ⟨m - 10, by omega⟩
  simp [eqY, all2]
theorem od_50 {n : Str} (h : Nm n) : NotT (.tup [.str "of", .str "a ", .int 1]) := fun f st hf => by
  obtain ⟨g, rfl⟩ : ∃ g, f = g + 5 := ⟨f - 5, by omega⟩
  kernel_rfl
theorem es_50 (n : Str) : Es 10 (.tup [.str "of", .str "a ", .int 1]) := fun m hm => by
  obtain ⟨g, rfl⟩ : ∃ g, m = g + 10 := ⟨m - 10, by omega⟩
  simp [eqY, all2]
theorem od_51 {n : Str} (h : Nm n) : NotT (.tup [.lst [.str "of"], .str "a", .int 1]) := fun f st hf => by
  obtain ⟨g, rfl⟩ : ∃ g, f = g + 5 := ⟨f - 5, by omega⟩
  kernel_rfl
theorem es_51 (n : Str) : Es 10 (.tup [.lst [.str "of"], .str "a", .int 1]) := fun m hm => by
  obtain ⟨g, rfl⟩ : ∃ g, m = g + 10 := ⟨m - 10, by omega⟩
  simp [eqY, all2]
theorem od_52 {n : Str} (h : Nm n) : NotT (.tup [.lst [], .lst [ptD n]]) := fun f st hf => by
  obtain ⟨g, rfl⟩ : ∃ g, f = g + 5 := ⟨f - 5, by omega⟩
  kernel_rfl
theorem es_52 (n : Str) : Es 10 (.tup [.lst [], .lst [ptD n]]) := fun m hm => by
  obtain ⟨g, rfl⟩ : ∃ g, m = g + 10 := ⟨m - 10, by omega⟩
  simp [eqY, all2]
theorem od_53 {n : Str} (h : Nm n) : NotT (.tup [.dic [] [], .str "a", .int 1]) := fun f st hf => by
  obtain ⟨g, rfl⟩ : ∃ g, f = g + 5 := ⟨f - 5, by omega⟩
  kernel_rfl
theorem es_53 (n : Str) : Es 10 (.tup [.dic [] [], .str "a", .int 1]) := fun m hm => by
  obtain ⟨g, rfl⟩ : ∃ g, m = g + 10 := ⟨m - 10, by omega⟩
  simp [eqY, all2]
theorem od_54 {n : Str} (h : Nm n) : NotT (.tup [.str "rank", .lst [], .lst [ptD n]]) := fun f st hf => by
  obtain ⟨g, rfl⟩ : ∃ g, f = g + 5 := ⟨f - 5, by omega⟩
  kernel_rfl
theorem es_54 (n : Str) : Es 10 (.tup [.str "rank", .lst [], .lst [ptD n]]) := fun m hm => by
  obtain ⟨g, rfl⟩ : ∃ g, m = g + 10 := ⟨m - 10, by omega⟩
  simp [eqY, all2]
theorem od_55 {n : Str} (h : Nm n) : NotT (.tup [.str "now", .str "a", .bl false]) := fun f st hf => by
  obtain ⟨g, rfl⟩ : ∃ g, f = g + 5 := ⟨f - 5, by omega⟩
  kernel_rfl
theorem es_55 (n : Str) : Es 10 (.tup [.str "now", .str "a", .bl false]) := fun m hm => by
  obtain ⟨g, rfl⟩ : ∃ g, m = g + 10 := ⟨m - 10, by omega⟩
  simp [eqY, all2]
theorem od_56 {n : Str} (h : Nm n) : NotT (.tup [.str "last", .lst [ptD n, .lst []]]) := nt_two h
theorem es_56 (n : Str) : Es 10 (.tup [.str "last", .lst [ptD n, .lst []]]) := fun m hm => by
  obtain ⟨g, rfl⟩ : ∃ g, m = g + 10 := ⟨m - 10, by omega⟩
  simp [eqY, all2]
theorem od_57 {n : Str} (h : Nm n) : NotT (.tup [.str "first", .int 1]) := fun f st hf => by
  obtain ⟨g, rfl⟩ : ∃ g, f = g + 5 := ⟨f - 5, by omega⟩
  kernel_rfl
theorem es_57 (n : Str) : Es 10 (.tup [.str "first", .int 1]) := fun m hm => by
  obtain ⟨g, rfl⟩ : ∃ g, m = g + 10 := ⟨m - 10, by omega⟩
  simp [eqY, all2]
theorem od_58 {n : Str} (h : Nm n) : NotT (.tup [.str "rank", .non, .lst [ptD n]]) := fun f st hf => by
  obtain ⟨g, rfl⟩ : ∃ g, f = g + 5 := ⟨f - 5, by omega⟩
  kernel_rfl
theorem es_58 (n : Str) : Es 10 (.tup [.str "rank", .non, .lst [ptD n]]) := fun m hm => by
  obtain ⟨g, rfl⟩ : ∃ g, m = g + 10 := ⟨m - 10, by omega⟩
  simp [eqY, all2]
theorem od_59 {n : Str} (h : Nm n) : NotT (.tup [.str "of", .str "a1", .int 1]) := fun f st hf => by
  obtain ⟨g, rfl⟩ : ∃ g, f = g + 5 := ⟨f - 5, by omega⟩
  kernel_rfl
theorem es_59 (n : Str) : Es 10 (.tup [.str "of", .str "a1", .int 1]) := fun m hm => by
  obtain ⟨g, rfl⟩ : ∃ g, m = g + 10 := ⟨m - 10, by omega⟩
  simp [eqY, all2]
def odds (n : Str) : List D := [.non,
  .int 5,
  .bl true,
  .str "of",
  .tup [],
  .lst [],
  .dic [] [],
  .tup [.str "of"],
  .tup [.str "of", .str "a"],
  .tup [.str "of", .str "a", .int 1, .int 2],
  .tup [.str "of", .str "A", .int 1],
  .tup [.str "of", .str "", .int 0],
  .tup [.str "of", .str "abcdefghi", .int 0],
  .tup [.str "of", .str "a", .bl true],
  .tup [.str "of", .str "a", .str "1"],
  .tup [.str "of", .str "a", .non],
  .tup [.str "of", .str "a", .tup [.int 1]],
  .tup [.str "of", .int 1, .int 1],
  .lst [.str "of", .str "a", .int 1],
  .tup [.str "first"],
  .tup [.str "first", .lst []],
  .tup [.str "first", .tup []],
  .tup [.str "first", .tup [ptD n]],
  .tup [.str "first", ptD n],
  .tup [.str "first", .lst [ptD n], .lst []],
  .tup [.str "last", .lst [.non]],
  .tup [.str "last", .non],
  .tup [.str "last", .dic [.inr "a"] [ptD n]],
  .tup [.str "rank", .lst [ptD n]],
  .tup [.str "rank", .int 0, .lst [ptD n]],
  .tup [.str "rank", .int 2, .lst [ptD n]],
  .tup [.str "rank", .bl true, .lst [ptD n]],
  .tup [.str "rank", .str "1", .lst [ptD n]],
  .tup [.str "rank", .int 1, .lst []],
  .tup [.str "rank", .int 1, .tup [ptD n]],
  .tup [.str "rank", .lst [ptD n], .int 1],
  .tup [.str "rank", .int (-1), .lst [ptD n]],
  .tup [.str "middle", .lst [ptD n]],
  .tup [.int 5, .lst [ptD n]],
  .tup [.tup [.str "of"], .str "a", .int 1],
  .tup [.str "now", .str "a b", .int 1],
  .tup [.str "Of", .str "a", .int 1],
  .tup [.str "of", .non, .int 1],
  .lst [.str "first", .lst [ptD n]],
  .tup [.str "rank", .int 1, .lst [ptD n], .int 1],
  .tup [.str "last", .lst []],
  .tup [.str "last"],
  .tup [.str "last", .tup [ptD n]],
  .tup [.str "of", .str "a\n", .int 0],
  .tup [.str "now", .str "\na", .int 0],
  .tup [.str "of", .str "a ", .int 1],
  .tup [.lst [.str "of"], .str "a", .int 1],
  .tup [.lst [], .lst [ptD n]],
  .tup [.dic [] [], .str "a", .int 1],
  .tup [.str "rank", .lst [], .lst [ptD n]],
  .tup [.str "now", .str "a", .bl false],
  .tup [.str "last", .lst [ptD n, .lst []]],
  .tup [.str "first", .int 1],
  .tup [.str "rank", .non, .lst [ptD n]],
  .tup [.str "of", .str "a1", .int 1]]
theorem odds_ok {n : Str} (h : Nm n) : ∀ v ∈ odds n, NotT v ∧ Es 10 v := by
  unfold odds
  refine List.forall_mem_cons.mpr ⟨⟨od_0 h, es_0 n⟩, ?_⟩
  refine List.forall_mem_cons.mpr ⟨⟨od_1 h, es_1 n⟩, ?_⟩
  refine List.forall_mem_cons.mpr ⟨⟨od_2 h, es_2 n⟩, ?_⟩
  refine List.forall_mem_cons.mpr ⟨⟨od_3 h, es_3 n⟩, ?_⟩
  refine List.forall_mem_cons.mpr ⟨⟨od_4 h, es_4 n⟩, ?_⟩
  refine List.forall_mem_cons.mpr ⟨⟨od_5 h, es_5 n⟩, ?_⟩
  refine List.forall_mem_cons.mpr ⟨⟨od_6 h, es_6 n⟩, ?_⟩
  refine List.forall_mem_cons.mpr ⟨⟨od_7 h, es_7 n⟩, ?_⟩
  refine List.forall_mem_cons.mpr ⟨⟨od_8 h, es_8 n⟩, ?_⟩
  refine List.forall_mem_cons.mpr ⟨⟨od_9 h, es_9 n⟩, ?_⟩
  refine List.forall_mem_cons.mpr ⟨⟨od_10 h, es_10 n⟩, ?_⟩
  refine List.forall_mem_cons.mpr ⟨⟨od_11 h, es_11 n⟩, ?_⟩
  refine List.forall_mem_cons.mpr ⟨⟨od_12 h, es_12 n⟩, ?_⟩
  refine List.forall_mem_cons.mpr ⟨⟨od_13 h, es_13 n⟩, ?_⟩
  refine List.forall_mem_cons.mpr ⟨⟨od_14 h, es_14 n⟩, ?_⟩
  refine List.forall_mem_cons.mpr ⟨⟨od_15 h, es_15 n⟩, ?_⟩
  refine List.forall_mem_cons.mpr ⟨⟨od_16 h, es_16 n⟩, ?_⟩
  refine List.forall_mem_cons.mpr ⟨⟨od_17 h, es_17 n⟩, ?_⟩
  refine List.forall_mem_cons.mpr ⟨⟨od_18 h, es_18 n⟩, ?_⟩
  refine List.forall_mem_cons.mpr ⟨⟨od_19 h, es_19 n⟩, ?_⟩
  refine List.forall_mem_cons.mpr ⟨⟨od_20 h, es_20 n⟩, ?_⟩
  refine List.forall_mem_cons.mpr ⟨⟨od_21 h, es_21 n⟩, ?_⟩
  refine List.forall_mem_cons.mpr ⟨⟨od_22 h, es_22 n⟩, ?_⟩
  refine List.forall_mem_cons.mpr ⟨⟨od_23 h, es_23 n⟩, ?_⟩
  refine List.forall_mem_cons.mpr ⟨⟨od_24 h, es_24 n⟩, ?_⟩
  refine List.forall_mem_cons.mpr ⟨⟨od_25 h, es_25 n⟩, ?_⟩
  refine List.forall_mem_cons.mpr ⟨⟨od_26 h, es_26 n⟩, ?_⟩
  refine List.forall_mem_cons.mpr ⟨⟨od_27 h, es_27 n⟩, ?_⟩
  refine List.forall_mem_cons.mpr ⟨⟨od_28 h, es_28 n⟩, ?_⟩
  refine List.forall_mem_cons.mpr ⟨⟨od_29 h, es_29 n⟩, ?_⟩
  refine List.forall_mem_cons.mpr ⟨⟨od_30 h, es_30 n⟩, ?_⟩
  refine List.forall_mem_cons.mpr ⟨⟨od_31 h, es_31 n⟩, ?_⟩
  refine List.forall_mem_cons.mpr ⟨⟨od_32 h, es_32 n⟩, ?_⟩
  refine List.forall_mem_cons.mpr ⟨⟨od_33 h, es_33 n⟩, ?_⟩
  refine List.forall_mem_cons.mpr ⟨⟨od_34 h, es_34 n⟩, ?_⟩
  refine List.forall_mem_cons.mpr ⟨⟨od_35 h, es_35 n⟩, ?_⟩
  refine List.forall_mem_cons.mpr ⟨⟨od_36 h, es_36 n⟩, ?_⟩
  refine List.forall_mem_cons.mpr ⟨⟨od_37 h, es_37 n⟩, ?_⟩
  refine List.forall_mem_cons.mpr ⟨⟨od_38 h, es_38 n⟩, ?_⟩
  refine List.forall_mem_cons.mpr ⟨⟨od_39 h, es_39 n⟩, ?_⟩
  refine List.forall_mem_cons.mpr ⟨⟨od_40 h, es_40 n⟩, ?_⟩
  refine List.forall_mem_cons.mpr ⟨⟨od_41 h, es_41 n⟩, ?_⟩
  refine List.forall_mem_cons.mpr ⟨⟨od_42 h, es_42 n⟩, ?_⟩
  refine List.forall_mem_cons.mpr ⟨⟨od_43 h, es_43 n⟩, ?_⟩
  refine List.forall_mem_cons.mpr ⟨⟨od_44 h, es_44 n⟩, ?_⟩
  refine List.forall_mem_cons.mpr ⟨⟨od_45 h, es_45 n⟩, ?_⟩
  refine List.forall_mem_cons.mpr ⟨⟨od_46 h, es_46 n⟩, ?_⟩
  refine List.forall_mem_cons.mpr ⟨⟨od_47 h, es_47 n⟩, ?_⟩
  refine List.forall_mem_cons.mpr ⟨⟨od_48 h, es_48 n⟩, ?_⟩
  refine List.forall_mem_cons.mpr ⟨⟨od_49 h, es_49 n⟩, ?_⟩
  refine List.forall_mem_cons.mpr ⟨⟨od_50 h, es_50 n⟩, ?_⟩
  refine List.forall_mem_cons.mpr ⟨⟨od_51 h, es_51 n⟩, ?_⟩
  refine List.forall_mem_cons.mpr ⟨⟨od_52 h, es_52 n⟩, ?_⟩
  refine List.forall_mem_cons.mpr ⟨⟨od_53 h, es_53 n⟩, ?_⟩
  refine List.forall_mem_cons.mpr ⟨⟨od_54 h, es_54 n⟩, ?_⟩
  refine List.forall_mem_cons.mpr ⟨⟨od_55 h, es_55 n⟩, ?_⟩
  refine List.forall_mem_cons.mpr ⟨⟨od_56 h, es_56 n⟩, ?_⟩
  refine List.forall_mem_cons.mpr ⟨⟨od_57 h, es_57 n⟩, ?_⟩
  refine List.forall_mem_cons.mpr ⟨⟨od_58 h, es_58 n⟩, ?_⟩
  refine List.forall_mem_cons.mpr ⟨⟨od_59 h, es_59 n⟩, ?_⟩
  exact fun v hv => by cases hv
theorem oddIs {n : Str} {st : Sto} : m__law_odd [ptD n] st = some (.lst (odds n), st) := by kernel_rfl
end K02

namespace K02
open PySem L2 LW
local macro_rules | `(tactic| bv_omega) => `(tactic| (repeat (first | with_reducible first | refine z_var (by with_unfolding_all rfl) ?_ | refine z_pk (by with_unfolding_all rfl) ?_ | refine z_pkO (by with_unfolding_all rfl) ?_ | refine z_retO (by with_unfolding_all rfl) ?_ | refine z_c ?_ | refine z_op ?_ | refine z_nil ?_ | refine z_cons ?_ | refine z_tup ?_ | refine z_lst ?_ | refine z_L ?_ | refine z_bi ?_ | refine z_call ?_ | refine z_meth ?_ | refine z_prop ?_ | refine z_fld ?_ | refine z_make ?_ | refine z_not ?_ | refine z_neg ?_ | refine z_bits ?_ | refine t_of ?_ | refine t_not ?_ | refine z_slN ?_ | refine z_oN ?_ | refine z_oS ?_ | refine z_snil ?_ | refine z_seq ?_ | refine z_set ?_ | refine z_own ?_ | refine z_ret ?_ | refine z_retC ?_ | refine z_drop ?_ | refine z_frz ?_ | refine z_app ?_ | refine z_appC ?_ | refine z_putC ?_ | refine z_for ?_ | refine z_lc ?_ | refine z_yes ?_ | refine z_kv ?_ | refine z_ko ?_ | refine z_par ?_ | refine z_unp ?_ | refine z_sfld ?_ | refine z_rg1 ?_ | refine z_rg2 ?_ | refine z_rg3 ?_ | refine z_and ?_ | refine z_or ?_ | refine z_eif ?_ | refine t_and ?_ | refine t_or ?_ | refine z_sif ?_ | refine u_add ?_ | refine u_sub ?_ | refine u_lt ?_ | refine u_le ?_ | refine u_gt ?_ | refine u_ge ?_ | refine u_isN ?_ | refine u_notN ?_ | refine z_par3 ?_ | (with_reducible refine u_mul ?_ ?_; next => first | exact mulC_r (by decide) (by decide) | exact mulC_l (by decide) (by decide) | exact mulC_r (by omega) (by omega) | exact mulC_l (by omega) (by omega)) | (with_reducible refine u_mod ?_ ?_; next => first | decide | assumption | omega) | (with_reducible refine u_div ?_ ?_; next => first | exact divC_s (by decide) (by decide) | exact divC_s (by omega) (by omega)))))
/-! ### rules -/
theorem copiedP : ∀ (d : Nat) (x : D), IsT Nm Nm d x → ∀ f st, d + 1 ≤ f → mr_copied f [x] st = some (x, st) := by
  have pt : ∀ (x : D), Pt x → ∀ g st, mr_copied (g + 1) [x] st = some (x, st) := fun x pt g st => by
    rw [sr_copied]
    refine Ok.eq (z_fn rfl ?_)
    unfold b_copied
    bv_omega
    refine Ok.use (partPt pt) ?_
    refine b_t rfl ?_
    bv_omega
    exact ⟨rfl, rfl⟩
  intro d
  induction d with
  | zero =>
    intro x h f st hf
    obtain ⟨g, rfl⟩ : ∃ g, f = g + 1 := ⟨f - 1, by omega⟩
    rcases isT_cases h with hp | ⟨e, _, _, he, _⟩
    · exact pt x hp g st
    · cases he
  | succ d ih =>
    intro x h f st hf
    obtain ⟨g, rfl⟩ : ∃ g, f = g + 1 := ⟨f - 1, by omega⟩
    rcases isT_cases h with hp | ⟨e, p, xs, he, hp, rfl, h1, h2, hx⟩
    · exact pt x hp g st
    · cases he
      rw [sr_copied]
      refine Ok.eq (z_fn rfl ?_)
      unfold b_copied
      bv_omega
      refine Ok.use (partPre hp) ?_
      refine b_f rfl ?_
      bv_omega
      refine z_seqLR ?_
      bv_omega
      refine u_ixT (hp.last _) ?_
      refine ⟨xs, .inl rfl, fun chk hc => ⟨by show xs.length ≤ 1000000; omega, ?_⟩⟩
      refine Ok.use (compCopy xs xs chk hc rfl fun i a b ha hb => ?_) ?_
      · rw [ha] at hb
        injection hb with hb
        subst hb
        exact ih a (hx a (List.mem_of_getElem? ha)) g st (by omega)
      · bv_omega
        refine Ok.use (insPre hp) ?_
        exact ⟨rfl, rfl⟩
theorem rule_by {x y : D} {st : Sto} (h1 : m_is_term [y] st = some (.bl true, st)) (h2 : m_copied [y] st = some (x, st)) : m_Rule___init__ [y] st = some ((([("form" : Str)] : List Str), [x]), st) := by
  refine Ok.eq (z_init rfl ?_)
  unfold b_Rule___init__
  bv_omega
  refine Ok.use h1 ?_
  refine b_f rfl ?_
  bv_omega
  refine Ok.use h2 ?_
  refine ⟨_, _, rfl, by decide, ?_⟩
  exact ⟨_, rfl, rfl, rfl⟩
theorem rule_pure {d : Nat} {x : D} {st : Sto} (h : IsT Nm Nm d x) (hd : d ≤ 9) : m_Rule___init__ [x] st = some ((([("form" : Str)] : List Str), [x]), st) := rule_by (isT_pure d x h 22 st (by omega)) (copiedP d x h 11 st (by omega))
theorem rule_TC {d lo hi : Nat} {x y : D} {st : Sto} (h : IsT Nm Nm d x) (hd : d ≤ 9) (t : TC st d lo hi y x) : m_Rule___init__ [y] st = some ((([("form" : Str)] : List Str), [x]), st) := rule_by (isT_TC d x y st lo hi h t 22 (by omega)) (copied_TC d x y st lo hi t h 11 (by omega))
theorem termC {d : Nat} {x : D} (h : IsT Nm Nm d x) (hd : d ≤ 9) (st : Sto) : ∃ y zs, m_Rule_term_c [ruD x] st = some (y, st ++ zs) ∧ TC (st ++ zs) d st.length (st.length + zs.length) y x := by
  obtain ⟨y, zs, e, t⟩ := copiedC d x h 11 (by omega) st
  refine ⟨y, zs, ?_, t⟩
  refine Ok.eq (z_fn rfl ?_)
  unfold b_Rule_term_c
  bv_omega
  refine ⟨rfl, u_now form_ok ?_⟩
  bv_omega
  refine Ok.use e ?_
  exact ⟨rfl, rfl⟩
theorem termP {d : Nat} {x : D} (h : IsT Nm Nm d x) (hd : d ≤ 9) (st : Sto) : m_Rule_term [ruD x] st = some (x, st) := by
  refine Ok.eq (z_fn rfl ?_)
  unfold b_Rule_term
  bv_omega
  refine ⟨rfl, u_now form_ok ?_⟩
  bv_omega
  refine Ok.use (copiedP d x h 11 st (by omega)) ?_
  exact ⟨rfl, rfl⟩
theorem req {x y : D} {p q : PyData} {st : Sto} (hx : toPy 60 st x = some p) (hy : toPy 60 st y = some q) : m_Rule___eq__ [ruD x, ruD y] st = some (.bl (PyData.eqv p q), st) := by
  refine Ok.eq (z_fn rfl ?_)
  unfold b_Rule___eq__
  bv_omega
  refine u_now (a := .bl true) rfl ?_
  refine b_t rfl ?_
  bv_omega
  refine ⟨rfl, u_now form_ok ?_⟩
  bv_omega
  refine ⟨rfl, u_now form_ok ?_⟩
  refine u_eq hx hy ?_
  exact ⟨rfl, rfl⟩
theorem req_no {x y : D} {st : Sto} (h : (∃ zs, y = .tup zs) ∨ ∃ z, y = .str z) : m_Rule___eq__ [ruD x, y] st = some (.bl false, st) := by
  refine Ok.eq (z_fn rfl ?_)
  unfold b_Rule___eq__
  bv_omega
  refine u_now (a := .bl false) (by rcases h with ⟨zs, rfl⟩ | ⟨z, rfl⟩ <;> rfl) ?_
  refine b_f rfl ?_
  exact ⟨rfl, rfl⟩
theorem z_eOwn {cn : Str} {cs : List Str} {neg : Bool} {g : FM} {fa fb : SE} {env : LW.Env} {st : Sto} {Q : D → Sto → Prop}
    (h : Ok (fa env st) fun x s1 => AsO x fun c ns vs => c = cn ∧ Ok (fb env s1) fun y s2 => okTy cs y = true ∧ Ok (g [.obj c ns vs, y] s2) fun d s3 => AsB d fun b => Q (.bl (if neg then !b else b)) s3) : Ok (eOwn cn cs neg g fa fb env st) Q := by
  obtain ⟨x, s1, e1, h⟩ := h
  obtain ⟨c, ns, vs, rfl, rfl, y, s2, e2, ty, d, s3, e3, h⟩ := h.of
  obtain ⟨b, rfl, q⟩ := h.of
  refine ⟨_, s3, ?_, q⟩
  unfold eOwn
  rw [e1]
  dsimp only
  rw [if_pos rfl, e2]
  dsimp only
  rw [if_pos ty, e3]
/-! ### caught -/
abbrev tblE : List (Str × Str × Bool) := [("InvalidTerm", "InvalidTerm", true)]
abbrev clsE : List Cl := [("InvalidTerm", some 2, (fun d => sSet 1 (eL (fun env st => (eK d env st).map fun p => ([p.1], p.2)))))]
theorem sub1 : subT tblE "InvalidTerm" "InvalidTerm" = some true := by decide +kernel
theorem run_term {a p1 p2 : Sl} {d : D} {st : Sto} : hRun (subT tblE) "InvalidTerm" d clsE [a, p1, p2] st = some (.nx [a, .val (.lst [d]), .un], st) := by
  unfold hRun
  rw [sub1]
  rfl
theorem init_ex {v : D} {st : Sto} (h : m_is_term [v] st = some (.bl false, st)) : mx_Rule___init__ [v] st = some (.ex "InvalidTerm" v, st) := by
  refine Ok.eq (z_initX rfl ?_)
  unfold bx_Rule___init__
  refine z_xSeq (z_xIf ?_)
  bv_omega
  refine Ok.use h ?_
  refine b_t rfl ?_
  refine z_xRaise ?_
  bv_omega
  exact ⟨rfl, rfl⟩
theorem init_in {x : D} {st : Sto} (h1 : m_is_term [x] st = some (.bl true, st)) (h2 : m_copied [x] st = some (x, st)) : mx_Rule___init__ [x] st = some (.ok ["form"] [x], st) := by
  refine Ok.eq (z_initX rfl ?_)
  unfold bx_Rule___init__
  refine z_xSeq (z_xIf ?_)
  bv_omega
  refine Ok.use h1 ?_
  refine b_f rfl ?_
  refine z_xNil ?_
  refine z_xL ?_
  bv_omega
  refine Ok.use h2 ?_
  refine ⟨_, _, rfl, by decide, ?_⟩
  exact ⟨_, rfl, rfl, rfl⟩
theorem caughtBad {v : D} {st : Sto} (h : m_is_term [v] st = some (.bl false, st)) : m__law_caught [v] st = some (.lst [v], st) := by
  refine Ok.eq (z_fn rfl ?_)
  unfold b__law_caught
  bv_omega
  refine z_sTry (z_xDrop (z_eMakeX ?_))
  bv_omega
  refine Ok.use (init_ex h) ?_
  refine Ok.use run_term ?_
  bv_omega
  exact ⟨rfl, rfl⟩
theorem caughtNone {d : Nat} {x : D} {st : Sto} (h : IsT Nm Nm d x) (hd : d ≤ 9) : m__law_caught [x] st = some (.non, st) := by
  refine Ok.eq (z_fn rfl ?_)
  unfold b__law_caught
  bv_omega
  refine z_sTry (z_xDrop (z_eMakeX ?_))
  bv_omega
  refine Ok.use (init_in (isT_pure d x h 22 st (by omega)) (copiedP d x h 11 st (by omega))) ?_
  bv_omega
  exact ⟨rfl, rfl⟩
end K02

namespace K02
open PySem L2 LW
local macro_rules | `(tactic| bv_omega) => `(tactic| (repeat (first | with_reducible first | refine z_var (by with_unfolding_all rfl) ?_ | refine z_pk (by with_unfolding_all rfl) ?_ | refine z_pkO (by with_unfolding_all rfl) ?_ | refine z_retO (by with_unfolding_all rfl) ?_ | refine z_c ?_ | refine z_op ?_ | refine z_nil ?_ | refine z_cons ?_ | refine z_tup ?_ | refine z_lst ?_ | refine z_L ?_ | refine z_bi ?_ | refine z_call ?_ | refine z_meth ?_ | refine z_prop ?_ | refine z_fld ?_ | refine z_make ?_ | refine z_not ?_ | refine z_neg ?_ | refine z_bits ?_ | refine t_of ?_ | refine t_not ?_ | refine z_slN ?_ | refine z_oN ?_ | refine z_oS ?_ | refine z_snil ?_ | refine z_seq ?_ | refine z_set ?_ | refine z_own ?_ | refine z_ret ?_ | refine z_retC ?_ | refine z_drop ?_ | refine z_frz ?_ | refine z_app ?_ | refine z_appC ?_ | refine z_putC ?_ | refine z_for ?_ | refine z_lc ?_ | refine z_yes ?_ | refine z_kv ?_ | refine z_ko ?_ | refine z_par ?_ | refine z_unp ?_ | refine z_sfld ?_ | refine z_rg1 ?_ | refine z_rg2 ?_ | refine z_rg3 ?_ | refine z_and ?_ | refine z_or ?_ | refine z_eif ?_ | refine t_and ?_ | refine t_or ?_ | refine z_sif ?_ | refine u_add ?_ | refine u_sub ?_ | refine u_lt ?_ | refine u_le ?_ | refine u_gt ?_ | refine u_ge ?_ | refine u_isN ?_ | refine u_notN ?_ | refine z_par3 ?_ | (with_reducible refine u_mul ?_ ?_; next => first | exact mulC_r (by decide) (by decide) | exact mulC_l (by decide) (by decide) | exact mulC_r (by omega) (by omega) | exact mulC_l (by omega) (by omega)) | (with_reducible refine u_mod ?_ ?_; next => first | decide | assumption | omega) | (with_reducible refine u_div ?_ ?_; next => first | exact divC_s (by decide) (by decide) | exact divC_s (by omega) (by omega)))))
/-! ### a term with another thing in the place of a part -/
inductive IsB (v : D) : Nat → D → Prop where
  | here {d : Nat} : IsB v d v
  | node {d : Nat} {p as cs : List D} {b : D} (hp : Pre p) (hl : (as ++ b :: cs).length ≤ 100) (hr : ∀ r, p = [.str "rank", .int r] → 1 ≤ r ∧ r ≤ (as ++ b :: cs).length) (ha : ∀ x ∈ as, IsT Nm Nm d x) (hb : IsB v d b) (hc : ∀ x ∈ cs, IsT Nm Nm d x) : IsB v (d + 1) (.tup (p ++ [.lst (as ++ b :: cs)]))
theorem isT_mk {d : Nat} {p xs : List D} (hp : Pre p) (h1 : 1 ≤ xs.length) (h2 : xs.length ≤ 100) (hr : ∀ r, p = [.str "rank", .int r] → 1 ≤ r ∧ r ≤ xs.length) (h : ∀ x ∈ xs, IsT Nm Nm d x) : IsT Nm Nm (d + 1) (.tup (p ++ [.lst xs])) := by
  rcases hp with ⟨k, hk, rfl⟩ | ⟨r, rfl⟩
  · exact .node hk h1 h2 h
  · exact .rank (hr r rfl).1 (hr r rfl).2 h2 h
theorem IsB.isT {v : D} (hv : ∀ d, IsT Nm Nm d v) : ∀ {d : Nat} {x : D}, IsB v d x → IsT Nm Nm d x
  | _, _, .here => hv _
  | _, _, .node hp hl hr ha hb hc => isT_mk hp (by simp; omega) hl hr fun x hx => by
    rcases List.mem_append.mp hx with hx | hx
    · exact ha x hx
    · rcases List.mem_cons.mp hx with rfl | hx
      · exact hb.isT hv
      · exact hc x hx
open Classical in
theorem IsB.notT {v : D} (hv : NotT v) : ∀ {d : Nat} {x : D}, IsB v d x → ∀ f st, 2 * d + 5 ≤ f → mr_is_term f [x] st = some (.bl false, st)
  | _, _, .here, f, st, hf => hv f st (by omega)
  | d + 1, _, .node (p := p) (as := as) (cs := cs) (b := b) hp hl hr ha hb hc, f, st, hf => by
    obtain ⟨g, rfl⟩ : ∃ g, f = g + 2 := ⟨f - 2, by omega⟩
    have hb' : ∀ st, mr_is_term g [b] st = some (.bl false, st) := fun st => hb.notT hv g st (by omega)
    have key : ∀ z ∈ as ++ b :: cs, mr_is_term g [z] st = some (.bl (decide (∀ st, mr_is_term g [z] st = some (.bl true, st))), st) := by
      have good : ∀ z, IsT Nm Nm d z → mr_is_term g [z] st = some (.bl (decide (∀ st, mr_is_term g [z] st = some (.bl true, st))), st) := fun z hz => by
        have e := isT_pure d z hz g
        rw [decide_eq_true (fun st => e st (by omega))]
        exact e st (by omega)
      intro z hz
      rcases List.mem_append.mp hz with hz | hz
      · exact good z (ha z hz)
      · rcases List.mem_cons.mp hz with rfl | hz
        · rw [decide_eq_false fun e => by
            have e1 := e []
            rw [hb' []] at e1
            injection e1 with e1
            injection e1 with e1
            injection e1 with e1
            cases e1]
          exact hb' st
        · exact good z (hc z hz)
    have := areT (f := g) (st := st) (y := .lst (as ++ b :: cs)) (p := fun z => decide (∀ st, mr_is_term g [z] st = some (.bl true, st))) (.inl rfl) (by simp) (by omega) key
    have ef : (as ++ b :: cs).all (fun z => decide (∀ st, mr_is_term g [z] st = some (.bl true, st))) = false := by
      rw [List.all_eq_false]
      refine ⟨b, by simp, ?_⟩
      rw [decide_eq_false fun e => by
        have e1 := e []
        rw [hb' []] at e1
        injection e1 with e1
        injection e1 with e1
        injection e1 with e1
        cases e1]
      exact Bool.false_ne_true
    rw [ef] at this
    rcases hp with ⟨k, hk, rfl⟩ | ⟨r, rfl⟩
    · exact isT_node hk this
    · exact isT_rank (r := r) (n := 0) this (fun e => by cases e)
/-! ### equal to itself -/
theorem all2_self {n : Nat} : ∀ {xs : List D}, (∀ d ∈ xs, eqY n d d = true) → all2 (eqY n) xs xs = true
  | [], _ => rfl
  | x :: xs, h => by
    unfold all2
    rw [h x (by simp), all2_self fun d hd => h d (by simp [hd])]
    rfl
theorem es_tup {k : Nat} {xs : List D} (h : ∀ d ∈ xs, Es k d) : Es (k + 1) (.tup xs) := fun n hn => by
  obtain ⟨m, rfl⟩ : ∃ m, n = m + 1 := ⟨n - 1, by omega⟩
  exact all2_self fun d hd => h d hd m (by omega)
theorem es_lst {k : Nat} {xs : List D} (h : ∀ d ∈ xs, Es k d) : Es (k + 1) (.lst xs) := fun n hn => by
  obtain ⟨m, rfl⟩ : ∃ m, n = m + 1 := ⟨n - 1, by omega⟩
  exact all2_self fun d hd => h d hd m (by omega)
theorem Es.up {k m : Nat} {v : D} (h : Es k v) (l : k ≤ m) : Es m v := fun n hn => h n (by omega)
theorem es_str {x : Str} : Es 1 (.str x) := fun n hn => by
  obtain ⟨m, rfl⟩ : ∃ m, n = m + 1 := ⟨n - 1, by omega⟩
  simp [eqY]
theorem es_int {x : Int} : Es 1 (.int x) := fun n hn => by
  obtain ⟨m, rfl⟩ : ∃ m, n = m + 1 := ⟨n - 1, by omega⟩
  simp [eqY]
theorem es_pre {p : List D} {y : D} {k : Nat} (hp : Pre p) (h : Es (k + 1) y) : Es (k + 2) (.tup (p ++ [y])) := es_tup fun d hd => by
  rcases List.mem_append.mp hd with hd | hd
  · rcases hp with ⟨k, hk, rfl⟩ | ⟨r, rfl⟩
    · rw [List.mem_singleton.mp hd]; exact es_str.up (by omega)
    · rcases List.mem_cons.mp hd with rfl | hd
      · exact es_str.up (by omega)
      · rw [List.mem_singleton.mp hd]; exact es_int.up (by omega)
  · rw [List.mem_singleton.mp hd]; exact h
theorem es_T : ∀ (d : Nat) (x : D), IsT Nm Nm d x → Es (2 * d + 2) x := by
  have pt : ∀ x, Pt x → Es 2 x := fun x hx => by
    obtain ⟨k, n, w, hk, rfl⟩ := hx
    refine es_tup fun d hd => ?_
    simp only [List.mem_cons, List.not_mem_nil, or_false] at hd
    rcases hd with rfl | rfl | rfl
    · exact es_str
    · exact es_str
    · exact es_int
  intro d
  induction d with
  | zero =>
    intro x h
    rcases isT_cases h with hp | ⟨e, _, _, he, _⟩
    · exact pt x hp
    · cases he
  | succ d ih =>
    intro x h
    rcases isT_cases h with hp | ⟨e, p, xs, he, hp, rfl, h1, h2, hx⟩
    · exact (pt x hp).up (by omega)
    · cases he
      exact (es_pre (k := 2 * d + 2) hp (es_lst fun z hz => ih z (hx z hz))).up (by omega)
theorem IsB.es {v : D} (hv : Es 10 v) : ∀ {d : Nat} {x : D}, IsB v d x → Es (2 * d + 10) x
  | _, _, .here => hv.up (by omega)
  | d + 1, _, .node hp hl hr ha hb hc => (es_pre (k := 2 * d + 10) hp (es_lst fun z hz => by
    rcases List.mem_append.mp hz with hz | hz
    · exact (es_T d z (ha z hz)).up (by omega)
    · rcases List.mem_cons.mp hz with rfl | hz
      · exact hb.es hv
      · exact (es_T d z (hc z hz)).up (by omega))).up (by omega)
theorem u_neYs {s : Sto} {xs : List D} {Q : D → Prop} (h : ∀ d ∈ xs, Es 40 d) (q : Q (.bl false)) : Od (oNeY (.lst xs) (.lst xs) s) Q := by
  refine ⟨_, ?_, q⟩
  show (if all2 (eqY 40) xs xs = true then some (D.bl false) else none) = _
  rw [if_pos (all2_self fun d hd => h d hd 40 (by decide))]
/-! ### drawn -/
theorem set_split {xs : List D} {i : Nat} {b y : D} (h : xs[i]? = some b) : xs.set i y = xs.take i ++ y :: xs.drop (i + 1) := by
  rw [List.set_eq_take_append_cons_drop, if_pos (List.getElem?_eq_some_iff.mp h).1]
section
variable {k : Nat}
theorem bentK {v : D} : ∀ (d : Nat) (x : D), IsT Nm Nm d x → ∀ f, d + 1 ≤ f → ∀ (n : Nat) (st : Sto), Pc k n st → n + 4 * (d + 1) < 2 ^ 45 → ∀ {Q : D → Sto → Prop}, (∀ y s, Pc k (n + 4 * (d + 1)) s → Keep k st s → IsB v d y → Q y s) → Ok (mr__law_bent f [.cell k, x, v] st) Q := by
  have pt : ∀ (x : D), Pt x → ∀ g (st : Sto) {Q : D → Sto → Prop}, Q v st → Ok (mr__law_bent (g + 1) [.cell k, x, v] st) Q := fun x hx g st Q q => by
    obtain ⟨w, n, c, hk, rfl⟩ := hx
    rw [sr__law_bent]
    refine z_fn rfl ?_
    unfold b__law_bent
    bv_omega
    refine u_ixT rfl ?_
    bv_omega
    refine ⟨by simp, ?_⟩
    refine inW_yes hk ?_
    refine b_t rfl ?_
    bv_omega
    exact q
  intro d
  induction d with
  | zero =>
    intro x h f hf n st P hn Q q
    obtain ⟨g, rfl⟩ : ∃ g, f = g + 1 := ⟨f - 1, by omega⟩
    rcases isT_cases h with hp | ⟨e, _, _, he, _⟩
    · exact pt x hp g st (q v st (P.mono (by omega)) Keep.refl .here)
    · cases he
  | succ d ih =>
    intro x h f hf n st P hn Q q
    obtain ⟨g, rfl⟩ : ∃ g, f = g + 1 := ⟨f - 1, by omega⟩
    have h0 := h
    rcases isT_cases h with hp | ⟨e, p, xs, he, hp, rfl, h1, h2, hx⟩
    · exact pt x hp g st (q v st (P.mono (by omega)) Keep.refl .here)
    · cases he
      have hr : ∀ r, p = [.str "rank", .int r] → 1 ≤ r ∧ r ≤ xs.length := fun r e => by
        subst e
        have h : IsT Nm Nm (d + 1) (.tup [.str "rank", .int r, .lst xs]) := h0
        cases h with
        | rank a b _ _ => exact ⟨a, b⟩
      obtain ⟨w, hw, kk⟩ := hp.head (.lst xs)
      rw [sr__law_bent]
      refine z_fn rfl ?_
      unfold b__law_bent
      bv_omega
      refine u_ixT hw ?_
      bv_omega
      refine ⟨by simp, ?_⟩
      refine inW_no kk ?_
      refine b_f rfl ?_
      bv_omega
      refine u_ixT (hp.last _) ?_
      bv_omega
      refine u_now (a := xs) rfl ?_
      bv_omega
      refine u_ixT (hp.last _) ?_
      bv_omega
      refine u_now (a := .int (xs.length : Nat)) rfl ?_
      bv_omega
      refine drawK P (by omega) (m := (xs.length : Int)) (by omega) (by omega) fun r s1 P1 K1 r0 r1 => ?_
      refine ⟨by decide, ?_⟩
      bv_omega
      obtain ⟨b, eb, eb2⟩ := atI_in r0 r1
      refine z_put ?_
      bv_omega
      refine u_ixL eb ?_
      bv_omega
      refine ih b (hx b (List.mem_of_getElem? eb2)) g (by omega) (n + 4) s1 P1 (by omega) fun y s2 P2 K2 hb => ?_
      bv_omega
      refine ⟨xs, r.toNat, rfl, ix_nat (by omega) (by omega), ?_⟩
      bv_omega
      refine u_now (hp.init _ _) ?_
      bv_omega
      refine ⟨by simp, ?_⟩
      refine u_addT (by have := hp.len; rw [List.length_singleton]; omega) ?_
      rw [set_split eb2]
      have ll : (xs.take r.toNat ++ y :: xs.drop (r.toNat + 1)).length = xs.length := by rw [← set_split eb2, List.length_set]
      refine q _ s2 (P2.mono (by omega)) (K1.trans K2) (.node hp (by omega) (fun r e => by rw [ll]; exact hr r e) (fun z hz => hx z (List.mem_of_mem_take hz)) hb fun z hz => hx z (List.mem_of_mem_drop hz))
end
end K02

namespace K02
open PySem L2 LW
local macro_rules | `(tactic| bv_omega) => `(tactic| (repeat (first | with_reducible first | refine z_var (by with_unfolding_all rfl) ?_ | refine z_pk (by with_unfolding_all rfl) ?_ | refine z_pkO (by with_unfolding_all rfl) ?_ | refine z_retO (by with_unfolding_all rfl) ?_ | refine z_c ?_ | refine z_op ?_ | refine z_nil ?_ | refine z_cons ?_ | refine z_tup ?_ | refine z_lst ?_ | refine z_L ?_ | refine z_bi ?_ | refine z_call ?_ | refine z_meth ?_ | refine z_prop ?_ | refine z_fld ?_ | refine z_make ?_ | refine z_not ?_ | refine z_neg ?_ | refine z_bits ?_ | refine t_of ?_ | refine t_not ?_ | refine z_slN ?_ | refine z_oN ?_ | refine z_oS ?_ | refine z_snil ?_ | refine z_seq ?_ | refine z_set ?_ | refine z_own ?_ | refine z_ret ?_ | refine z_retC ?_ | refine z_drop ?_ | refine z_frz ?_ | refine z_app ?_ | refine z_appC ?_ | refine z_putC ?_ | refine z_for ?_ | refine z_lc ?_ | refine z_yes ?_ | refine z_kv ?_ | refine z_ko ?_ | refine z_par ?_ | refine z_unp ?_ | refine z_sfld ?_ | refine z_rg1 ?_ | refine z_rg2 ?_ | refine z_rg3 ?_ | refine z_and ?_ | refine z_or ?_ | refine z_eif ?_ | refine t_and ?_ | refine t_or ?_ | refine z_sif ?_ | refine u_add ?_ | refine u_sub ?_ | refine u_lt ?_ | refine u_le ?_ | refine u_gt ?_ | refine u_ge ?_ | refine u_isN ?_ | refine u_notN ?_ | refine z_par3 ?_ | (with_reducible refine u_mul ?_ ?_; next => first | exact mulC_r (by decide) (by decide) | exact mulC_l (by decide) (by decide) | exact mulC_r (by omega) (by omega) | exact mulC_l (by omega) (by omega)) | (with_reducible refine u_mod ?_ ?_; next => first | decide | assumption | omega) | (with_reducible refine u_div ?_ ?_; next => first | exact divC_s (by decide) (by decide) | exact divC_s (by omega) (by omega)))))
/-! ### as Python data, whatever the store -/
theorem py_st : ∀ (d : Nat) (x : D), IsT Nm Nm d x → ∀ n (s t : Sto), toPy n s x = toPy n t x := by
  have pt : ∀ x, Pt x → ∀ n (s t : Sto), toPy n s x = toPy n t x := fun x hx n s t => by
    obtain ⟨k, m, w, hk, rfl⟩ := hx
    cases n with
    | zero => rfl
    | succ n => cases n with
      | zero => rfl
      | succ n => rfl
  intro d
  induction d with
  | zero =>
    intro x h n s t
    rcases isT_cases h with hp | ⟨e, _, _, he, _⟩
    · exact pt x hp n s t
    · cases he
  | succ d ih =>
    intro x h n s t
    rcases isT_cases h with hp | ⟨e, p, xs, he, hp, rfl, h1, h2, hx⟩
    · exact pt x hp n s t
    · cases he
      have kids : ∀ n, mapO (toPy n s) xs = mapO (toPy n t) xs := by
        intro n
        clear h h1 h2
        induction xs with
        | nil => rfl
        | cons y ys ihy =>
          unfold mapO
          rw [ih y (hx y (by simp)) n s t, ihy fun z hz => hx z (by simp [hz])]
      have cel : ∀ n, toPy n s (.lst xs) = toPy n t (.lst xs) := by
        intro n
        cases n with
        | zero => rfl
        | succ n =>
          unfold toPy
          dsimp only
          rw [kids]
      have wd : ∀ n (k : Str), toPy n s (.str k) = toPy n t (.str k) := fun n k => by cases n <;> rfl
      have nu : ∀ n (k : Int), toPy n s (.int k) = toPy n t (.int k) := fun n k => by cases n <;> rfl
      cases n with
      | zero => rfl
      | succ n =>
        rcases hp with ⟨k, hk, rfl⟩ | ⟨r, rfl⟩
        · show toPy (n + 1) s (.tup [.str k, .lst xs]) = toPy (n + 1) t (.tup [.str k, .lst xs])
          unfold toPy
          dsimp only
          unfold mapO
          unfold mapO
          rw [cel, wd]
          rfl
        · show toPy (n + 1) s (.tup [.str "rank", .int r, .lst xs]) = toPy (n + 1) t (.tup [.str "rank", .int r, .lst xs])
          unfold toPy
          dsimp only
          unfold mapO
          unfold mapO
          unfold mapO
          rw [cel, wd, nu]
          rfl
noncomputable def pyD (x : D) : PyData := (toPy 60 [] x).getD .none
theorem pyD_ok {d : Nat} {x : D} (h : IsT Nm Nm d x) (hd : d ≤ 20) (st : Sto) : toPy 60 st x = some (pyD x) := by
  obtain ⟨p, e⟩ := py_term nmI nmI (st := []) d x h (58 - 2 * d)
  rw [show 2 * d + 2 + (58 - 2 * d) = 60 by omega] at e
  rw [py_st d x h 60 st [], e]
  unfold pyD
  rw [e]
  rfl
/-! ### many -/
theorem gSum_ints {ns : List Int} {st : Sto} : gSum [.lst (ns.map D.int)] st = some (.int ns.sum) := by
  unfold gSum
  show (match lstI st (.lst (ns.map D.int)) with | some ns => some (D.int ns.sum) | none => none) = _
  rw [show lstI st (.lst (ns.map D.int)) = some ns from IsL.lst.ints]
theorem compMany {r : FM} {st : Sto} {e1 : D} : ∀ (xs : List D), (∀ x ∈ xs, ∃ m : Int, r [x] st = some (.int m, st)) → ∃ ns : List Int, compM noChk (asgN 1) bYes (eCall r [] (aCons (eVar 1) aNil)) [.val e1, .un] xs st = some (ns.map D.int, st)
  | [], _ => ⟨[], by unfold compM; rw [if_pos (show noChk st = true from rfl)]; rfl⟩
  | x :: xs, h => by
    obtain ⟨m, e⟩ := h x (by simp)
    obtain ⟨ns, e2⟩ := compMany xs fun z hz => h z (by simp [hz])
    refine ⟨m :: ns, Ok.eq (z_compY rfl rfl ?_)⟩
    bv_omega
    refine Ok.use e ?_
    refine Ok.use e2 ?_
    exact ⟨rfl, rfl⟩
theorem manyOk : ∀ (d : Nat) (x : D), IsT Nm Nm d x → ∀ f st, d + 1 ≤ f → ∃ m : Int, mr__law_many f [x] st = some (.int m, st) := by
  have pt : ∀ (x : D), Pt x → ∀ g st, mr__law_many (g + 1) [x] st = some (.int 1, st) := fun x hx g st => by
    obtain ⟨k, n, w, hk, rfl⟩ := hx
    rw [sr__law_many]
    refine Ok.eq (z_fn rfl ?_)
    unfold b__law_many
    bv_omega
    refine u_ixT rfl ?_
    bv_omega
    refine ⟨by simp, ?_⟩
    refine inW_yes hk ?_
    refine b_t rfl ?_
    bv_omega
    exact ⟨rfl, rfl⟩
  intro d
  induction d with
  | zero =>
    intro x h f st hf
    obtain ⟨g, rfl⟩ : ∃ g, f = g + 1 := ⟨f - 1, by omega⟩
    rcases isT_cases h with hp | ⟨e, _, _, he, _⟩
    · exact ⟨1, pt x hp g st⟩
    · cases he
  | succ d ih =>
    intro x h f st hf
    obtain ⟨g, rfl⟩ : ∃ g, f = g + 1 := ⟨f - 1, by omega⟩
    rcases isT_cases h with hp | ⟨e, p, xs, he, hp, rfl, h1, h2, hx⟩
    · exact ⟨1, pt x hp g st⟩
    · cases he
      obtain ⟨ns, ec⟩ := compMany (r := mr__law_many g) (st := st) (e1 := .tup (p ++ [.lst xs])) xs fun z hz => ih z (hx z hz) g st (by omega)
      obtain ⟨k, hk, kk⟩ := hp.head (.lst xs)
      refine ⟨ns.sum, ?_⟩
      rw [sr__law_many]
      refine Ok.eq (z_fn rfl ?_)
      unfold b__law_many
      bv_omega
      refine u_ixT hk ?_
      bv_omega
      refine ⟨by simp, ?_⟩
      refine inW_no kk ?_
      refine b_f rfl ?_
      bv_omega
      refine z_seqI ?_
      bv_omega
      refine u_ixT (hp.last _) ?_
      refine ⟨xs, .inl rfl, by show xs.length ≤ 1000000; omega, ?_⟩
      refine Ok.use ec ?_
      bv_omega
      refine u_now gSum_ints ?_
      exact ⟨rfl, rfl⟩
/-! ### unlike -/
noncomputable def uTail : SS := (sFrz 3 (sRet (eL (lComp (iSeq (eVar 3)) (asgN 4) (bOf (eOp oNe (ePeek 4) (ePeek 1))) (eVar 4) [4]))))
theorem tailK {x a b : D} {ys : List D} {st : Sto} (T : IsT Nm Nm 7 x) (hl : ys.length ≤ 100) (h : ∀ y ∈ ys, IsT Nm Nm 8 y) : uTail [.val a, .val x, .val b, .own ys, .un] st = some (.rt (.lst (ys.filter fun z => !PyData.eqv (pyD z) (pyD x))), st) := by
  refine Ok.eq ?_
  unfold uTail
  bv_omega
  refine z_seqI ?_
  bv_omega
  refine ⟨_, .inl rfl, by show ys.length ≤ 1000000; omega, ?_⟩
  have := comp_zf (chk := noChk) (asg := asgN 4) (cond := (bOf (eOp oNe (ePeek 4) (ePeek 1)))) (elt := eVar 4) (env0 := [.val a, .val x, .val b, .val (.lst ys), .un]) (st := st) (fun d : D => d) (fun d : D => d) (fun z => !PyData.eqv (pyD z) (pyD x)) rfl ys fun d hd => ?_
  · rw [List.map_id', List.map_id'] at this
    refine Ok.use this ?_
    exact ⟨rfl, rfl⟩
  · refine ⟨_, rfl, ?_, fun _ => ?_⟩
    · bv_omega
      refine u_ne (pyD_ok (h d hd) (by decide) st) (pyD_ok T (by decide) st) ?_
      exact ⟨rfl, rfl⟩
    · bv_omega
      exact ⟨rfl, rfl⟩
end K02

namespace K02
open PySem L2 LW
local macro_rules | `(tactic| bv_omega) => `(tactic| (repeat (first | with_reducible first | refine z_var (by with_unfolding_all rfl) ?_ | refine z_pk (by with_unfolding_all rfl) ?_ | refine z_pkO (by with_unfolding_all rfl) ?_ | refine z_retO (by with_unfolding_all rfl) ?_ | refine z_c ?_ | refine z_op ?_ | refine z_nil ?_ | refine z_cons ?_ | refine z_tup ?_ | refine z_lst ?_ | refine z_L ?_ | refine z_bi ?_ | refine z_call ?_ | refine z_meth ?_ | refine z_prop ?_ | refine z_fld ?_ | refine z_make ?_ | refine z_not ?_ | refine z_neg ?_ | refine z_bits ?_ | refine t_of ?_ | refine t_not ?_ | refine z_slN ?_ | refine z_oN ?_ | refine z_oS ?_ | refine z_snil ?_ | refine z_seq ?_ | refine z_set ?_ | refine z_own ?_ | refine z_ret ?_ | refine z_retC ?_ | refine z_drop ?_ | refine z_frz ?_ | refine z_app ?_ | refine z_appC ?_ | refine z_putC ?_ | refine z_for ?_ | refine z_lc ?_ | refine z_yes ?_ | refine z_kv ?_ | refine z_ko ?_ | refine z_par ?_ | refine z_unp ?_ | refine z_sfld ?_ | refine z_rg1 ?_ | refine z_rg2 ?_ | refine z_rg3 ?_ | refine z_and ?_ | refine z_or ?_ | refine z_eif ?_ | refine t_and ?_ | refine t_or ?_ | refine z_sif ?_ | refine u_add ?_ | refine u_sub ?_ | refine u_lt ?_ | refine u_le ?_ | refine u_gt ?_ | refine u_ge ?_ | refine u_isN ?_ | refine u_notN ?_ | refine z_par3 ?_ | (with_reducible refine u_mul ?_ ?_; next => first | exact mulC_r (by decide) (by decide) | exact mulC_l (by decide) (by decide) | exact mulC_r (by omega) (by omega) | exact mulC_l (by omega) (by omega)) | (with_reducible refine u_mod ?_ ?_; next => first | decide | assumption | omega) | (with_reducible refine u_div ?_ ?_; next => first | exact divC_s (by decide) (by decide) | exact divC_s (by omega) (by omega)))))
noncomputable abbrev uEnd : SS := (sSeq (sIf (bOf (eOp (oInT false) (eOp oIx (ePeek 1) (eC (.int 0))) (eTup (aCons (eC (.str "first")) (aCons (eC (.str "last")) (aNil))))))
  (sOwn 3 (eOp oCat (ePeek 3) (eL (lDisp (aCons (eTup (aCons (eC (.str "rank")) (aCons (eC (.int 1)) (aCons (eOp oIx (ePeek 1) (eC (.int 1))) (aNil))))) (aCons (eTup (aCons (eOp oDx (eD (lDd [(eC (.str "first"), eC (.str "last")), (eC (.str "last"), eC (.str "first"))])) (eOp oIx (ePeek 1) (eC (.int 0)))) (aCons (eOp oIx (ePeek 1) (eC (.int 1))) (aNil)))) (aNil)))))))
  (sNil))
  (sSeq (sIf (bOf (eOp oEq (eOp oIx (ePeek 1) (eC (.int 0))) (eC (.str "rank"))))
  (sOwn 3 (eOp oCat (ePeek 3) (eL (lDisp (aCons (eTup (aCons (eC (.str "rank")) (aCons (eOp oAdd (eOp oMod (eOp oIx (ePeek 1) (eC (.int 1))) (eBi gLen (aCons (eOp oIx (ePeek 1) (eC (.int 2))) (aNil)))) (eC (.int 1))) (aCons (eOp oIx (ePeek 1) (eC (.int 2))) (aNil))))) (aCons (eTup (aCons (eC (.str "first")) (aCons (eOp oIx (ePeek 1) (eC (.int 2))) (aNil)))) (aNil)))))))
  (sNil))
  uTail))
theorem catK {xs ys : List D} {st : Sto} (h : xs.length + ys.length ≤ 1000000) : oCat (.lst xs) (.lst ys) st = some (xs ++ ys) := by
  show (if xs.length + ys.length ≤ 1000000 then some (xs ++ ys) else none) = _
  rw [if_pos h]
/-- what unlike tells -/
def Un (x : D) (zs : List D) : Prop := zs.length ≤ 100 ∧ ∀ z ∈ zs, IsT Nm Nm 8 z ∧ PyData.eqv (pyD z) (pyD x) = false
theorem endU {x a b : D} {ys : List D} {st : Sto} (T : IsT Nm Nm 7 x) (hl : ys.length ≤ 50) (h : ∀ y ∈ ys, IsT Nm Nm 8 y) : ∃ zs, uEnd [.val a, .val x, .val b, .own ys, .un] st = some (.rt (.lst zs), st) ∧ Un x zs := by
  have fin : ∀ ws : List D, ws.length ≤ 100 → (∀ y ∈ ws, IsT Nm Nm 8 y) → Un x (ws.filter fun z => !PyData.eqv (pyD z) (pyD x)) := fun ws hl hw => ⟨Nat.le_trans (List.length_filter_le _ _) hl, fun z hz => by
    obtain ⟨h1, h2⟩ := List.mem_filter.mp hz
    exact ⟨hw z h1, by simpa using h2⟩⟩
  have T0 := T
  rcases isT_cases T with ⟨k, n, w, hk, rfl⟩ | ⟨e, p, xs, he, hp, rfl, h1, h2, hx⟩
  · refine ⟨_, Ok.eq ?_, fin ys (by omega) h⟩
    unfold uEnd
    bv_omega
    refine u_ixT rfl ?_
    bv_omega
    refine ⟨by simp, ?_⟩
    refine u_now (a := .bl false) (by rcases hk with rfl | rfl <;> rfl) ?_
    refine b_f rfl ?_
    bv_omega
    refine u_ixT rfl ?_
    bv_omega
    refine u_eqW (by rcases hk with rfl | rfl <;> exact strOk_w _) (strOk_w _) ?_
    refine b_f (by rcases hk with rfl | rfl <;> decide) ?_
    bv_omega
    refine Ok.use (tailK T0 (by omega) h) ?_
    exact ⟨rfl, rfl⟩
  · cases he
    rcases hp with ⟨k, hk, rfl⟩ | ⟨r, rfl⟩
    · have hk2 : ∃ k2 : Str, (k2 = "first" ∨ k2 = "last") ∧ oDx (.dic (mergeD ([], []) [(.inr "first", .str "last"), (.inr "last", .str "first")]).1 (mergeD ([], []) [(.inr "first", .str "last"), (.inr "last", .str "first")]).2) (.str k) st = some (.str k2) := by
        rcases hk with rfl | rfl
        · exact ⟨"last", .inr rfl, by kernel_rfl⟩
        · exact ⟨"first", .inl rfl, by kernel_rfl⟩
      obtain ⟨k2, hk2, e2⟩ := hk2
      have hw : ∀ y ∈ ys ++ [.tup [.str "rank", .int 1, .lst xs], .tup [.str k2, .lst xs]], IsT Nm Nm 8 y := fun y hy => by
        rcases List.mem_append.mp hy with hy | hy
        · exact h y hy
        · rcases List.mem_cons.mp hy with rfl | hy
          · exact (IsT.rank (d := 6) (by decide) (by omega) h2 hx).up (by decide)
          · rw [List.mem_singleton.mp hy]
            exact (IsT.node (d := 6) hk2 h1 h2 hx).up (by decide)
      have lw : (ys ++ [(.tup [.str "rank", .int 1, .lst xs] : D), .tup [.str k2, .lst xs]]).length ≤ 100 := by rw [List.length_append]; show ys.length + 2 ≤ 100; omega
      refine ⟨_, Ok.eq ?_, fin _ lw hw⟩
      unfold uEnd
      bv_omega
      refine u_ixT rfl ?_
      bv_omega
      refine ⟨by simp, ?_⟩
      refine u_now (a := .bl true) (by rcases hk with rfl | rfl <;> rfl) ?_
      refine b_t rfl ?_
      bv_omega
      refine u_ixT rfl ?_
      bv_omega
      refine ⟨by simp, ?_⟩
      bv_omega
      refine z_D ?_
      refine z_dd ?_
      refine z_evC ?_
      bv_omega
      refine ⟨_, rfl, ?_⟩
      bv_omega
      refine z_evC ?_
      bv_omega
      refine ⟨_, rfl, ?_⟩
      bv_omega
      refine z_evN ?_
      refine ⟨by decide, ?_⟩
      bv_omega
      refine u_ixT rfl ?_
      refine u_now e2 ?_
      bv_omega
      refine u_ixT rfl ?_
      bv_omega
      refine ⟨by simp, ?_⟩
      bv_omega
      refine ⟨by simp, ?_⟩
      refine u_now (catK (by show ys.length + 2 ≤ 1000000; omega)) ?_
      bv_omega
      refine u_ixT rfl ?_
      bv_omega
      refine u_eqW (by rcases hk with rfl | rfl <;> exact strOk_w _) (strOk_w _) ?_
      refine b_f (by rcases hk with rfl | rfl <;> decide) ?_
      bv_omega
      refine Ok.use (tailK T0 lw hw) ?_
      exact ⟨rfl, rfl⟩
    · have hr : 1 ≤ r ∧ r ≤ xs.length := by
        have T : IsT Nm Nm 7 (.tup [.str "rank", .int r, .lst xs]) := T0
        cases T with
        | rank a b _ _ => exact ⟨a, b⟩
      have hm := Int.emod_nonneg r (show (xs.length : Int) ≠ 0 by omega)
      have hm2 := Int.emod_lt_of_pos r (show (0 : Int) < xs.length by omega)
      have hw : ∀ y ∈ ys ++ [.tup [.str "rank", .int (r % (xs.length : Nat) + 1), .lst xs], .tup [.str "first", .lst xs]], IsT Nm Nm 8 y := fun y hy => by
        rcases List.mem_append.mp hy with hy | hy
        · exact h y hy
        · rcases List.mem_cons.mp hy with rfl | hy
          · exact (IsT.rank (d := 6) (by omega) (by omega) h2 hx).up (by decide)
          · rw [List.mem_singleton.mp hy]
            exact (IsT.node (d := 6) (.inl rfl) h1 h2 hx).up (by decide)
      have lw : (ys ++ [(.tup [.str "rank", .int (r % (xs.length : Nat) + 1), .lst xs] : D), .tup [.str "first", .lst xs]]).length ≤ 100 := by rw [List.length_append]; show ys.length + 2 ≤ 100; omega
      refine ⟨_, Ok.eq ?_, fin _ lw hw⟩
      unfold uEnd
      bv_omega
      refine u_ixT rfl ?_
      bv_omega
      refine ⟨by simp, ?_⟩
      refine u_now (a := .bl false) rfl ?_
      refine b_f rfl ?_
      bv_omega
      refine u_ixT rfl ?_
      bv_omega
      refine u_eqW (strOk_w _) (strOk_w _) ?_
      refine b_t (by decide) ?_
      bv_omega
      refine u_ixT rfl ?_
      bv_omega
      refine u_ixT rfl ?_
      bv_omega
      refine u_now (a := .int (xs.length : Nat)) rfl ?_
      refine u_mod (by omega) ?_
      bv_omega
      refine u_ixT rfl ?_
      bv_omega
      refine ⟨by simp, ?_⟩
      bv_omega
      refine u_ixT rfl ?_
      bv_omega
      refine ⟨by simp, ?_⟩
      bv_omega
      refine ⟨by simp, ?_⟩
      refine u_now (catK (by show ys.length + 2 ≤ 1000000; omega)) ?_
      bv_omega
      refine Ok.use (tailK T0 lw hw) ?_
      exact ⟨rfl, rfl⟩
section
variable {k : Nat}
theorem unlikeK {x : D} {n : Nat} {st : Sto} (T : IsT Nm Nm 7 x) (P : Pc k n st) (hn : n < 2 ^ 44) {Q : D → Sto → Prop} (q : ∀ zs s, Pc k (n + 100) s → Keep k st s → Un x zs → Q (.lst zs) s) : Ok (m__law_unlike [.cell k, x] st) Q := by
  have aNm : Nm "a" := eight_nm _ (by decide)
  have one : ∀ y ∈ [x], IsT Nm Nm 7 y := fun y hy => by rw [List.mem_singleton.mp hy]; exact T
  have two : ∀ y ∈ [x, x], IsT Nm Nm 7 y := fun y hy => by
    rcases List.mem_cons.mp hy with rfl | hy
    · exact T
    · rw [List.mem_singleton.mp hy]; exact T
  refine z_fn rfl ?_
  unfold b__law_unlike
  bv_omega
  refine u_pow (by decide +kernel) ?_
  bv_omega
  refine ⟨by simp, ?_⟩
  bv_omega
  refine bentK 7 x T 11 (by decide) n st P (by omega) fun y s1 P1 K1 hb => ?_
  bv_omega
  refine ⟨by simp, ?_⟩
  bv_omega
  refine ⟨by simp, ?_⟩
  bv_omega
  refine ⟨by simp, ?_⟩
  bv_omega
  refine ⟨by simp, ?_⟩
  bv_omega
  refine ⟨by simp, ?_⟩
  have hy : IsT Nm Nm 7 y := hb.isT fun d => .of aNm
  have h3 : ∀ z ∈ [y, .tup [.str "first", .lst [x]], .tup [.str "rank", .int 1, .lst [x]]], IsT Nm Nm 8 z := fun z hz => by
    simp only [List.mem_cons, List.not_mem_nil, or_false] at hz
    rcases hz with rfl | rfl | rfl
    · exact hy.up (by decide)
    · exact .node (.inl rfl) (by show 1 ≤ 1; decide) (by show 1 ≤ 100; decide) one
    · exact .rank (by decide) (by show (1 : Int) ≤ ((1 : Nat) : Int); decide) (by show 1 ≤ 100; decide) one
  obtain ⟨m, em⟩ := manyOk 7 x T 11 s1 (by decide)
  bv_omega
  refine Ok.use em ?_
  bv_omega
  refine b_dec (fun _ => ?_) fun _ => ?_
  · bv_omega
    refine ⟨by simp, ?_⟩
    bv_omega
    refine ⟨by simp, ?_⟩
    refine ⟨_, rfl, by show 3 < 1000000; decide, ?_⟩
    obtain ⟨zs, ez, hz⟩ := endU (a := .cell k) (b := .tup [.str "of", .str "a", .int (10 ^ (12 : Int).toNat - 1)]) (ys := [y, .tup [.str "first", .lst [x]], .tup [.str "rank", .int 1, .lst [x]]] ++ [.tup [.str "last", .lst [x, x]]]) (st := s1) T (by show 4 ≤ 50; decide) fun z hz => by
      rcases List.mem_append.mp hz with hz | hz
      · exact h3 z hz
      · rw [List.mem_singleton.mp hz]
        exact .node (.inr rfl) (by show 1 ≤ 2; decide) (by show 2 ≤ 100; decide) two
    refine Ok.use ez ?_
    exact q zs s1 (P1.mono (by omega)) K1 hz
  · refine z_snil ?_
    obtain ⟨zs, ez, hz⟩ := endU (a := .cell k) (b := .tup [.str "of", .str "a", .int (10 ^ (12 : Int).toNat - 1)]) (ys := [y, .tup [.str "first", .lst [x]], .tup [.str "rank", .int 1, .lst [x]]]) (st := s1) T (by show 3 ≤ 50; decide) h3
    refine Ok.use ez ?_
    exact q zs s1 (P1.mono (by omega)) K1 hz
end
end K02

namespace K02
open PySem L2 LW
local macro_rules | `(tactic| bv_omega) => `(tactic| (repeat (first | with_reducible first | refine z_var (by with_unfolding_all rfl) ?_ | refine z_pk (by with_unfolding_all rfl) ?_ | refine z_pkO (by with_unfolding_all rfl) ?_ | refine z_retO (by with_unfolding_all rfl) ?_ | refine z_c ?_ | refine z_op ?_ | refine z_nil ?_ | refine z_cons ?_ | refine z_tup ?_ | refine z_lst ?_ | refine z_L ?_ | refine z_bi ?_ | refine z_call ?_ | refine z_meth ?_ | refine z_prop ?_ | refine z_fld ?_ | refine z_make ?_ | refine z_not ?_ | refine z_neg ?_ | refine z_bits ?_ | refine t_of ?_ | refine t_not ?_ | refine z_slN ?_ | refine z_oN ?_ | refine z_oS ?_ | refine z_snil ?_ | refine z_seq ?_ | refine z_set ?_ | refine z_own ?_ | refine z_ret ?_ | refine z_retC ?_ | refine z_drop ?_ | refine z_frz ?_ | refine z_app ?_ | refine z_appC ?_ | refine z_putC ?_ | refine z_for ?_ | refine z_lc ?_ | refine z_yes ?_ | refine z_kv ?_ | refine z_ko ?_ | refine z_par ?_ | refine z_unp ?_ | refine z_sfld ?_ | refine z_rg1 ?_ | refine z_rg2 ?_ | refine z_rg3 ?_ | refine z_and ?_ | refine z_or ?_ | refine z_eif ?_ | refine t_and ?_ | refine t_or ?_ | refine z_sif ?_ | refine u_add ?_ | refine u_sub ?_ | refine u_lt ?_ | refine u_le ?_ | refine u_gt ?_ | refine u_ge ?_ | refine u_isN ?_ | refine u_notN ?_ | refine z_par3 ?_ | (with_reducible refine u_mul ?_ ?_; next => first | exact mulC_r (by decide) (by decide) | exact mulC_l (by decide) (by decide) | exact mulC_r (by omega) (by omega) | exact mulC_l (by omega) (by omega)) | (with_reducible refine u_mod ?_ ?_; next => first | decide | assumption | omega) | (with_reducible refine u_div ?_ ?_; next => first | exact divC_s (by decide) (by decide) | exact divC_s (by omega) (by omega)))))
/-- all that stood before stays -/
def Grow (a b : Sto) : Prop := a.length ≤ b.length ∧ ∀ j, j < a.length → b[j]? = a[j]?
theorem Grow.refl {a : Sto} : Grow a a := ⟨Nat.le_refl _, fun _ _ => rfl⟩
theorem Grow.app {a b zs : Sto} (g : Grow a b) : Grow a (b ++ zs) := ⟨by have : (b ++ zs).length = b.length + zs.length := List.length_append; have := g.1; omega, fun j hj => by
  have := g.1
  rw [List.getElem?_append_left (by omega)]
  exact g.2 j hj⟩
theorem Grow.out {a b c : Sto} {lo hi : Nat} (g : Grow a b) (o : Out lo hi b c) (h : a.length ≤ lo) : Grow a c := ⟨by rw [o.1]; exact g.1, fun j hj => by rw [o.2 j (by omega)]; exact g.2 j hj⟩
theorem Pc.grow {k n : Nat} {a b : Sto} (P : Pc k n a) (g : Grow a b) : Pc k n b := by
  have := P.lt
  obtain ⟨l, e, p⟩ := P
  exact ⟨l, by rw [g.2 k this]; exact e, p⟩
theorem Keep.grow {k : Nat} {s a b : Sto} (K : Keep k s a) (g : Grow a b) : Keep k s b := fun j x n e => by
  have e' := K j x n e
  rw [g.2 j (List.getElem?_eq_some_iff.mp e').1]
  exact e'
noncomputable abbrev oBody : SS := (sSeq (sSet 9 (eCall m__law_bent [] (aCons (eVar 0) (aCons (eVar 2) (aCons (eVar 8) (aNil))))))
  (sIf (bOr (bOf (eOp oNeY (eCall m__law_caught [] (aCons (eVar 8) (aNil))) (eL (lDisp (aCons (eVar 8) (aNil)))))) (bOf (eOp oNeY (eCall m__law_caught [] (aCons (eVar 9) (aNil))) (eL (lDisp (aCons (eVar 9) (aNil)))))))
  (sRet (eC (.bl false)))
  (sNil)))
section
variable {k : Nat}
theorem oddLoop {x b1 b3 b4 b5 b6 : D} {p7 : Sl} (T : IsT Nm Nm 7 x) : ∀ (vs : List D) (n : Nat) (s : Sto) (p8 p9 : Sl), (∀ v ∈ vs, NotT v ∧ Es 10 v) → Pc k n s → n + 32 * vs.length < 2 ^ 44 → Ok (loopM noChk (asgN 8) oBody vs [.val (.cell k), .val b1, .val x, .val b3, .val b4, .val b5, .val b6, p7, p8, p9] s) fun o s' => Keep k s s' ∧ ∃ p8 p9, o = .nx [.val (.cell k), .val b1, .val x, .val b3, .val b4, .val b5, .val b6, p7, p8, p9]
  | [], n, s, p8, p9, _, P, _ => z_loopN rfl ⟨Keep.refl, _, _, rfl⟩
  | v :: vs, n, s, p8, p9, h, P, hn => by
    rw [List.length_cons] at hn
    obtain ⟨nt, es⟩ := h v (by simp)
    refine z_loopC rfl rfl ?_
    bv_omega
    refine bentK 7 x T 11 (by decide) n s P (by omega) fun y s1 P1 K1 hb => ?_
    bv_omega
    refine Ok.use (caughtBad (nt 22 s1 (by decide))) ?_
    bv_omega
    refine ⟨by simp, ?_⟩
    refine u_neYs (fun d hd => by rw [List.mem_singleton.mp hd]; exact es.up (by decide)) ?_
    refine b_f rfl ?_
    bv_omega
    refine Ok.use (caughtBad (hb.notT nt 22 s1 (by decide))) ?_
    bv_omega
    refine ⟨by simp, ?_⟩
    refine u_neYs (fun d hd => by rw [List.mem_singleton.mp hd]; exact (hb.es es).up (by decide)) ?_
    refine b_f rfl ?_
    bv_omega
    refine (oddLoop T vs (n + 32) s1 _ _ (fun z hz => h z (by simp [hz])) (P1.mono (by omega)) (by omega)).mono ?_
    rintro o s2 ⟨K2, p8, p9, rfl⟩
    exact ⟨K1.trans K2, p8, p9, rfl⟩
theorem u_nsame {s : Sto} {x : D} {p : PyData} {Q : D → Prop} (h : toPy 60 s x = some p) {y : D} (h' : toPy 60 s y = some p) (q : Q (.bl false)) : Od (oNe x y s) Q := by
  refine u_ne h h' ?_
  rw [SeqAt.eqv_refl p (toPy_ok 60 s x p h).2]
  exact q
theorem rightK {st : Sto} (P : Pc k 0 st) {Q : D → Sto → Prop} (q : ∀ s, Keep k st s → Q (.bl true) s) : Ok (m__law_right [.cell k] st) Q := by
  have c8 : cst (7 + 1) < 2 ^ 33 := by decide
  refine z_fn rfl ?_
  unfold b__law_right
  bv_omega
  refine namesK (m := 3) P (by decide) (by decide) (by decide) fun A s1 P1 K1 hA lA => ?_
  bv_omega
  refine drawK P1 (by decide) (m := 2) (by decide) (by decide) fun r s2 P2 K2 r0 r1 => ?_
  bv_omega
  refine u_now (a := (A.take r.toNat).map D.str) ?_ ?_
  · unfold slL
    show some (cutD (A.map D.str) none (some r)) = _
    rw [cutD_strs, show r = ((r.toNat : Nat) : Int) by omega, cut_take]
    rfl
  have hBA : ∀ z ∈ A.take r.toNat, z ∈ A := fun z hz => List.mem_of_mem_take hz
  have hB : ∀ z ∈ A.take r.toNat, Nm z := fun z hz => hA.nm z (hBA z hz)
  have lB : (A.take r.toNat).length ≤ 8 := by rw [List.length_take]; have := hA.hi; omega
  bv_omega
  refine drawK P2 (by decide) (m := 8) (by decide) (by decide) fun r2 s3 P3 K3 q0 q1 => ?_
  bv_omega
  have key : Ok (mr__law_term 10 [.cell k, .lst (A.map D.str), .lst ((A.take r.toNat).map D.str), .int ((1 + r2).toNat : Nat), .bl false] s3) fun d s' => Pc k (2 ^ 34) s' ∧ Keep k st s' ∧ IsT Nm Nm 7 d ∧ (∀ f, (leaves f d).length ≤ 8) ∧ ∀ f, ∀ l ∈ leaves f d, l.2.2.natAbs < 10 ^ 12 :=
    termK (k := k) (sm := false) hA hB lB 7 (1 + r2).toNat (by omega) (by omega) (by decide) 10 (by decide) _ s3 P3 (by omega) fun x s5 P5 K5 hx =>
      ⟨P5.mono (by omega), ((K1.trans K2).trans K3).trans K5, hx.t.imp hA.nm hB, fun g => by have := hx.sz g; omega, hx.wt⟩
  rw [show (((1 + r2).toNat : Nat) : Int) = 1 + r2 by omega] at key
  refine key.mono ?_
  rintro x s5 ⟨P5, K5, T, sz, wt⟩
  obtain ⟨_, p, epy, shp⟩ := py_sh 7 x T 11 (by decide) (wt 11)
  have ep : ∀ s, toPy 60 s x = some p := fun s => epy s 44
  have shn : (leaves 11 x).length * wB 7 ≤ 1000000 := by
    have := sz 11
    have : (leaves 11 x).length * (300 + 200 * 7) ≤ 8 * (300 + 200 * 7) := Nat.mul_le_mul_right _ this
    show (leaves 11 x).length * (300 + 200 * 7) ≤ 1000000
    omega
  have xt : ∃ zs, x = .tup zs := by
    rcases isT_cases T with ⟨k, n, w, _, rfl⟩ | ⟨_, p, xs, _, _, rfl, _⟩
    · exact ⟨_, rfl⟩
    · exact ⟨_, rfl⟩
  have rr : PyData.eqv p p = true := SeqAt.eqv_refl p (toPy_ok 60 [] x p (ep [])).2
  bv_omega
  -- again
  obtain ⟨y1, z1, e1, t1⟩ := againOk 7 x T 11 (by decide) s5
  refine Ok.use e1 ?_
  bv_omega
  refine u_repr (ep _) shp shn ?_
  refine ⟨by decide, ?_⟩
  bv_omega
  refine Ok.use (rule_TC T (by decide) t1) ?_
  bv_omega
  have g1 : Grow s5 (s5 ++ z1) := Grow.refl.app
  obtain ⟨s6, e6, o6⟩ := spoiltOk 7 11 (by decide) x y1 (s5 ++ z1) _ _ T t1 (by have : (s5 ++ z1).length = s5.length + z1.length := List.length_append; omega)
  have g6 : Grow s5 s6 := g1.out o6 (Nat.le_refl _)
  refine Ok.use e6 ?_
  bv_omega
  refine ⟨rfl, by show ¬ ("term" : Str) ∈ (["form"] : List Str); decide, ?_⟩
  bv_omega
  obtain ⟨y2, z2, e2, t2⟩ := termC T (by decide) s6
  refine Ok.use e2 ?_
  have ep2 : toPy 60 (s6 ++ z2) y2 = some p := by rw [toPy_TC 7 x y2 _ _ _ t2, ep]
  bv_omega
  refine u_repr ep2 shp shn ?_
  bv_omega
  refine u_neS shp.ok ?_
  refine b_f rfl ?_
  bv_omega
  obtain ⟨s7, e7, o7⟩ := spoiltOk 7 11 (by decide) x y2 (s6 ++ z2) _ _ T t2 (by have : (s6 ++ z2).length = s6.length + z2.length := List.length_append; omega)
  have g7 : Grow s5 s7 := g6.app.out o7 g6.1
  refine Ok.use e7 ?_
  bv_omega
  refine ⟨rfl, by show ¬ ("term" : Str) ∈ (["form"] : List Str); decide, ?_⟩
  bv_omega
  obtain ⟨y3, z3, e3, t3⟩ := termC T (by decide) s7
  refine Ok.use e3 ?_
  have ep3 : toPy 60 (s7 ++ z3) y3 = some p := by rw [toPy_TC 7 x y3 _ _ _ t3, ep]
  bv_omega
  refine u_repr ep3 shp shn ?_
  bv_omega
  refine u_neS shp.ok ?_
  refine b_f rfl ?_
  bv_omega
  refine z_eOwn ?_
  bv_omega
  refine ⟨rfl, ?_⟩
  obtain ⟨y4, z4, e4, t4⟩ := againOk 7 x T 11 (by decide) (s7 ++ z3)
  bv_omega
  refine Ok.use e4 ?_
  bv_omega
  refine Ok.use (rule_TC T (by decide) t4) ?_
  refine ⟨rfl, ?_⟩
  refine Ok.use (req (ep _) (ep _)) ?_
  rw [rr]
  refine b_f rfl ?_
  bv_omega
  refine z_eOwn ?_
  bv_omega
  refine ⟨rfl, ?_⟩
  bv_omega
  obtain ⟨zx, ezx⟩ := xt
  refine ⟨by rw [ezx]; rfl, ?_⟩
  refine Ok.use (req_no (.inl ⟨zx, ezx⟩)) ?_
  refine b_f rfl ?_
  bv_omega
  refine z_eOwn ?_
  bv_omega
  refine ⟨rfl, ?_⟩
  bv_omega
  refine ⟨rfl, ?_⟩
  refine Ok.use (req_no (.inr ⟨_, rfl⟩)) ?_
  refine b_f rfl ?_
  bv_omega
  -- unlike
  have g8 : Grow s5 (s7 ++ z3 ++ z4) := g7.app.app
  generalize s7 ++ z3 ++ z4 = s8 at g8 ⊢
  refine z_seqI ?_
  bv_omega
  refine unlikeK T (P5.grow g8) (by decide) fun zs s9 P9 K9 hz => ?_
  refine ⟨_, .inl rfl, ?_, ?_⟩
  · show zs.length ≤ 1000000
    have := hz.1
    omega
  refine Ok.use (comp_none rfl _ fun z hz' => ?_) ?_
  · obtain ⟨tz, ev⟩ := hz.2 z hz'
    have ex := pyD_ok T (by decide) s9
    have ez := pyD_ok tz (by decide) s9
    have ev2 : PyData.eqv (pyD x) (pyD z) = false := by rw [PySem.W.eqv_comm]; exact ev
    refine ⟨_, rfl, ?_⟩
    bv_omega
    refine z_eOwn ?_
    bv_omega
    refine ⟨rfl, ?_⟩
    bv_omega
    refine Ok.use (rule_pure tz (by decide)) ?_
    refine ⟨rfl, ?_⟩
    refine Ok.use (req ex ez) ?_
    rw [ev2]
    refine b_f rfl ?_
    bv_omega
    refine z_eOwn ?_
    bv_omega
    refine ⟨rfl, ?_⟩
    bv_omega
    refine Ok.use (rule_pure tz (by decide)) ?_
    refine ⟨rfl, ?_⟩
    refine Ok.use (req ex ez) ?_
    rw [ev2]
    exact ⟨rfl, rfl⟩
  bv_omega
  refine ⟨by simp, ?_⟩
  refine u_neNil (ps := []) rfl ?_
  refine b_f rfl ?_
  bv_omega
  refine z_seqI ?_
  bv_omega
  obtain ⟨z0, e0⟩ : ∃ z0, A[0]? = some z0 := ⟨_, List.getElem?_eq_getElem (by omega)⟩
  refine u_ixL (d := .str z0) (at_nat (i := 0) rfl (by rw [List.getElem?_map, e0]; rfl)) ?_
  bv_omega
  refine ⟨by simp, ?_⟩
  bv_omega
  have nz : Nm z0 := hA.nm z0 (List.mem_of_getElem? e0)
  refine Ok.use oddIs ?_
  refine ⟨_, .inl rfl, ?_⟩
  refine (oddLoop T (odds z0) (2 ^ 34 + 100) s9 _ _ (odds_ok nz) P9 (by show 2 ^ 34 + 100 + 32 * 60 < 2 ^ 44; decide)).mono ?_
  rintro o s10 ⟨K10, p8, p9, rfl⟩
  bv_omega
  refine Ok.use (caughtNone T (by decide)) ?_
  bv_omega
  exact q s10 (((K5.grow g8).trans K9).trans K10)
end
end K02

namespace K02
open PySem L2 LW
local macro_rules | `(tactic| bv_omega) => `(tactic| (repeat (first | with_reducible first | refine z_var (by with_unfolding_all rfl) ?_ | refine z_pk (by with_unfolding_all rfl) ?_ | refine z_pkO (by with_unfolding_all rfl) ?_ | refine z_retO (by with_unfolding_all rfl) ?_ | refine z_c ?_ | refine z_op ?_ | refine z_nil ?_ | refine z_cons ?_ | refine z_tup ?_ | refine z_lst ?_ | refine z_L ?_ | refine z_bi ?_ | refine z_call ?_ | refine z_meth ?_ | refine z_prop ?_ | refine z_fld ?_ | refine z_make ?_ | refine z_not ?_ | refine z_neg ?_ | refine z_bits ?_ | refine t_of ?_ | refine t_not ?_ | refine z_slN ?_ | refine z_oN ?_ | refine z_oS ?_ | refine z_snil ?_ | refine z_seq ?_ | refine z_set ?_ | refine z_own ?_ | refine z_ret ?_ | refine z_retC ?_ | refine z_drop ?_ | refine z_frz ?_ | refine z_app ?_ | refine z_appC ?_ | refine z_putC ?_ | refine z_for ?_ | refine z_lc ?_ | refine z_yes ?_ | refine z_kv ?_ | refine z_ko ?_ | refine z_par ?_ | refine z_unp ?_ | refine z_sfld ?_ | refine z_rg1 ?_ | refine z_rg2 ?_ | refine z_rg3 ?_ | refine z_and ?_ | refine z_or ?_ | refine z_eif ?_ | refine t_and ?_ | refine t_or ?_ | refine z_sif ?_ | refine u_add ?_ | refine u_sub ?_ | refine u_lt ?_ | refine u_le ?_ | refine u_gt ?_ | refine u_ge ?_ | refine u_isN ?_ | refine u_notN ?_ | refine z_par3 ?_ | (with_reducible refine u_mul ?_ ?_; next => first | exact mulC_r (by decide) (by decide) | exact mulC_l (by decide) (by decide) | exact mulC_r (by omega) (by omega) | exact mulC_l (by omega) (by omega)) | (with_reducible refine u_mod ?_ ?_; next => first | decide | assumption | omega) | (with_reducible refine u_div ?_ ?_; next => first | exact divC_s (by decide) (by decide) | exact divC_s (by omega) (by omega)))))
noncomputable abbrev lbD : SS := (sIf (bNot (bOf (eCall m__law_right [] (aCons (eVar 1) (aNil)))))
  (sRet (eC (.bl false)))
  (sNil))
theorem loop_ok {d0 : D} {p2 : Sl} : ∀ (ks : List Nat) (s : Sto) (p1 : Sl), (∀ k ∈ ks, Pc k 0 s) → ks.Pairwise (· ≠ ·) → Ok (loopM noChk (asgN 1) lbD (ks.map D.cell) [.val d0, p1, p2] s) fun o _ => ∃ p1, o = .nx [.val d0, p1, p2]
  | [], s, p1, _, _ => z_loopN rfl ⟨_, rfl⟩
  | k :: ks, s, p1, hP, hw => by
    obtain ⟨hw1, hw2⟩ := List.pairwise_cons.mp hw
    refine z_loopC rfl rfl ?_
    bv_omega
    refine rightK (hP k (by simp)) fun s' K => ?_
    refine b_f rfl ?_
    bv_omega
    refine loop_ok ks s' _ (fun k' hk' => ?_) hw2
    obtain ⟨l, e, p⟩ := hP k' (by simp [hk'])
    exact ⟨l, K k' l (fun z => hw1 k' hk' z.symm) e, p⟩
abbrev zD (i : Int) : D := .tup [.str "now", .str "zzzzzzzz", .int i]
theorem z_nm : Nm "zzzzzzzz" := eight_nm _ (by decide)
theorem zD_t {d : Nat} {i : Int} : IsT Nm Nm d (zD i) := .now z_nm
theorem zD_py {i : Int} {st : Sto} : toPy 60 st (zD i) = some (.tuple [.str "now", .str "zzzzzzzz", .int i]) := by
  unfold toPy
  dsimp only
  unfold mapO
  rw [py_str (strOk_w "now")]
  dsimp only
  unfold mapO
  rw [py_str z_nm.ok]
  rfl
theorem zD_ne {i j : Int} (h : i ≠ j) : PyData.eqv (.tuple [.str "now", .str "zzzzzzzz", .int i]) (.tuple [.str "now", .str "zzzzzzzz", .int j]) = false := by
  simp [PyData.eqv, PyData.eqvAll, h]
abbrev wD (i : Int) : D := .tup [.str "rank", .int 2, .lst [zD i, zD i]]
theorem wD_t {i : Int} : IsT Nm Nm 1 (wD i) := .rank (by decide) (by show (2 : Int) ≤ ((2 : Nat) : Int); decide) (by show 2 ≤ 100; decide) fun y hy => by
  rcases List.mem_cons.mp hy with rfl | hy
  · exact zD_t
  · rw [List.mem_singleton.mp hy]; exact zD_t
theorem law_true (ns : List Int) (hl : ns.length ≤ 63) : ∃ st', m_law [.fro (ns.map D.int)] [] = some (.bl true, st') := by
  have H : Ok (m_law [.fro (ns.map D.int)] []) fun d _ => d = .bl true := by
    refine z_fn rfl ?_
    unfold b_law
    refine z_seq ?_
    refine z_for ?_
    refine z_seqI ?_
    bv_omega
    refine pursesK fun ks s hP hw => ?_
    refine ⟨_, .inl rfl, ?_⟩
    refine (loop_ok ks s _ hP hw).mono ?_
    rintro o s' ⟨p1, rfl⟩
    bv_omega
    refine u_pow (by decide +kernel) ?_
    bv_omega
    refine ⟨by simp, ?_⟩
    bv_omega
    refine z_eOwn ?_
    bv_omega
    refine Ok.use (rule_pure (d := 0) zD_t (by decide)) ?_
    refine ⟨rfl, ?_⟩
    bv_omega
    refine ⟨by simp, ?_⟩
    bv_omega
    refine Ok.use (rule_pure (d := 0) zD_t (by decide)) ?_
    refine ⟨rfl, ?_⟩
    refine Ok.use (req zD_py zD_py) ?_
    rw [zD_ne (by decide)]
    refine b_f rfl ?_
    bv_omega
    repeat (refine ⟨by simp, ?_⟩; bv_omega)
    refine Ok.use (rule_pure wD_t (by decide)) ?_
    refine ⟨rfl, by show ¬ ("term" : Str) ∈ (["form"] : List Str); decide, ?_⟩
    bv_omega
    refine Ok.use (termP wD_t (by decide) s') ?_
    bv_omega
    repeat (refine ⟨by simp, ?_⟩; bv_omega)
    refine u_eq (pyD_ok wD_t (by decide) s') (pyD_ok wD_t (by decide) s') ?_
    rw [SeqAt.eqv_refl _ (toPy_ok 60 s' _ _ (pyD_ok wD_t (by decide) s')).2]
  obtain ⟨d, s, e, rfl⟩ := H
  exact ⟨s, e⟩
end K02

open PySem PySem.W PyProof.Rows
set_option maxRecDepth 100000 in
set_option maxHeartbeats 0 in
theorem PySem.Challenge.cw_leafwaits_k02_rules_made_holds : PySem.Challenge.rw_leafwaits_k02_rules_made.Holds := by
  w_on
  o_law
  k_head
  case hw => w_witness2
  k_fill
  refine LW.walk_D (l := PySem.Challenge.rw_leafwaits_k02_rules_made) (n := 63) (k := 29) (x := "_law_script") (g := K02.m_law) rfl (by decide) rfl ⟨rfl, by decide, by decide⟩ (fun w h Y => PySem.W.kIn_of Y) ?F K02.law_true
  case F =>
    intro w mg fa h KX G hmg
    refine' K02.end_mk KX G hmg ?a0 ?T
    (case a0 => k_is)
    refine' K02.Txt0.mk ?F_Rule___eq__ ?F_Rule___init__ ?F_Rule_term ?F_Rule_term_c ?F__law_again ?F__law_bent ?F__law_caught ?F__law_draw ?F__law_many ?F__law_mixed ?F__law_names ?F__law_odd ?F__law_one_of ?F__law_part ?F__law_purse ?F__law_purses ?F__law_right ?F__law_shuffled ?F__law_small_wait ?F__law_spoilt ?F__law_term ?F__law_unlike ?F__law_wait ?F__law_word ?F_are_terms ?F_copied ?F_copied_c ?F_is_name ?F_is_part ?F_is_term ?F_is_whole ?F_law ?F_with_inside ?a_Rule_form ?c_Rule ?em ?g_LETTERS ?isi ?k_Rule ?lf_InvalidTerm ?n_bool ?n_int ?n_isinstance ?n_len ?n_list ?n_max ?n_min ?n_range ?n_repr ?n_str ?n_sum ?n_super ?n_tuple ?ne_Rule ?nf_Rule ?ob_Rule
    (case F_Rule___eq__ => (refine' LW.mt_mk ?q9a ?q9i ?q9l ?q9c ?q9k; (case q9a => k_is); (case q9i => k_is); (case q9l => k_is); (case q9c => k_is); (case q9k => k_is)))
    (case F_Rule___init__ => (refine' LW.in_mk ?q10mk ?q10a ?q10i ?q10kc ?q10l ?q10c ?q10k; (case q10mk => k_is); (case q10a => k_is); (case q10i => k_is); (case q10kc => k_is); (case q10l => k_is); (case q10c => k_is); (case q10k => k_is)))
    (case F_Rule_term => (refine' LW.mt_mk ?q11a ?q11i ?q11l ?q11c ?q11k; (case q11a => k_is); (case q11i => k_is); (case q11l => k_is); (case q11c => k_is); (case q11k => k_is)))
    (case F_Rule_term_c => (refine' LW.mt_mk ?q12a ?q12i ?q12l ?q12c ?q12k; (case q12a => k_is); (case q12i => k_is); (case q12l => k_is); (case q12c => k_is); (case q12k => k_is)))
    (case F__law_again => (refine' LW.ft_mk KX G ?q13a ?q13l ?q13c ?q13k; (case q13a => k_is); (case q13l => k_is); (case q13c => k_is); (case q13k => k_is)))
    (case F__law_bent => (refine' LW.ft_mk KX G ?q14a ?q14l ?q14c ?q14k; (case q14a => k_is); (case q14l => k_is); (case q14c => k_is); (case q14k => k_is)))
    (case F__law_caught => (refine' LW.ft_mk KX G ?q15a ?q15l ?q15c ?q15k; (case q15a => k_is); (case q15l => k_is); (case q15c => k_is); (case q15k => k_is)))
    (case F__law_draw => (refine' LW.ft_mk KX G ?q16a ?q16l ?q16c ?q16k; (case q16a => k_is); (case q16l => k_is); (case q16c => k_is); (case q16k => k_is)))
    (case F__law_many => (refine' LW.ft_mk KX G ?q17a ?q17l ?q17c ?q17k; (case q17a => k_is); (case q17l => k_is); (case q17c => k_is); (case q17k => k_is)))
    (case F__law_mixed => (refine' LW.ft_mk KX G ?q18a ?q18l ?q18c ?q18k; (case q18a => k_is); (case q18l => k_is); (case q18c => k_is); (case q18k => k_is)))
    (case F__law_names => (refine' LW.ft_mk KX G ?q19a ?q19l ?q19c ?q19k; (case q19a => k_is); (case q19l => k_is); (case q19c => k_is); (case q19k => k_is)))
    (case F__law_odd => (refine' LW.ft_mk KX G ?q20a ?q20l ?q20c ?q20k; (case q20a => k_is); (case q20l => k_is); (case q20c => k_is); (case q20k => k_is)))
    (case F__law_one_of => (refine' LW.ft_mk KX G ?q21a ?q21l ?q21c ?q21k; (case q21a => k_is); (case q21l => k_is); (case q21c => k_is); (case q21k => k_is)))
    (case F__law_part => (refine' LW.ft_mk KX G ?q22a ?q22l ?q22c ?q22k; (case q22a => k_is); (case q22l => k_is); (case q22c => k_is); (case q22k => k_is)))
    (case F__law_purse => (refine' LW.ft_mk KX G ?q23a ?q23l ?q23c ?q23k; (case q23a => k_is); (case q23l => k_is); (case q23c => k_is); (case q23k => k_is)))
    (case F__law_purses => (refine' LW.ft_mk KX G ?q24a ?q24l ?q24c ?q24k; (case q24a => k_is); (case q24l => k_is); (case q24c => k_is); (case q24k => k_is)))
    (case F__law_right => (refine' LW.ft_mk KX G ?q25a ?q25l ?q25c ?q25k; (case q25a => k_is); (case q25l => k_is); (case q25c => k_is); (case q25k => k_is)))
    (case F__law_shuffled => (refine' LW.ft_mk KX G ?q26a ?q26l ?q26c ?q26k; (case q26a => k_is); (case q26l => k_is); (case q26c => k_is); (case q26k => k_is)))
    (case F__law_small_wait => (refine' LW.ft_mk KX G ?q27a ?q27l ?q27c ?q27k; (case q27a => k_is); (case q27l => k_is); (case q27c => k_is); (case q27k => k_is)))
    (case F__law_spoilt => (refine' LW.ft_mk KX G ?q28a ?q28l ?q28c ?q28k; (case q28a => k_is); (case q28l => k_is); (case q28c => k_is); (case q28k => k_is)))
    (case F__law_term => (refine' LW.ft_mk KX G ?q29a ?q29l ?q29c ?q29k; (case q29a => k_is); (case q29l => k_is); (case q29c => k_is); (case q29k => k_is)))
    (case F__law_unlike => (refine' LW.ft_mk KX G ?q30a ?q30l ?q30c ?q30k; (case q30a => k_is); (case q30l => k_is); (case q30c => k_is); (case q30k => k_is)))
    (case F__law_wait => (refine' LW.ft_mk KX G ?q31a ?q31l ?q31c ?q31k; (case q31a => k_is); (case q31l => k_is); (case q31c => k_is); (case q31k => k_is)))
    (case F__law_word => (refine' LW.ft_mk KX G ?q32a ?q32l ?q32c ?q32k; (case q32a => k_is); (case q32l => k_is); (case q32c => k_is); (case q32k => k_is)))
    (case F_are_terms => (refine' LW.ft_mk KX G ?q33a ?q33l ?q33c ?q33k; (case q33a => k_is); (case q33l => k_is); (case q33c => k_is); (case q33k => k_is)))
    (case F_copied => (refine' LW.ft_mk KX G ?q34a ?q34l ?q34c ?q34k; (case q34a => k_is); (case q34l => k_is); (case q34c => k_is); (case q34k => k_is)))
    (case F_copied_c => (refine' LW.ft_mk KX G ?q35a ?q35l ?q35c ?q35k; (case q35a => k_is); (case q35l => k_is); (case q35c => k_is); (case q35k => k_is)))
    (case F_is_name => (refine' LW.ft_mk KX G ?q36a ?q36l ?q36c ?q36k; (case q36a => k_is); (case q36l => k_is); (case q36c => k_is); (case q36k => k_is)))
    (case F_is_part => (refine' LW.ft_mk KX G ?q37a ?q37l ?q37c ?q37k; (case q37a => k_is); (case q37l => k_is); (case q37c => k_is); (case q37k => k_is)))
    (case F_is_term => (refine' LW.ft_mk KX G ?q38a ?q38l ?q38c ?q38k; (case q38a => k_is); (case q38l => k_is); (case q38c => k_is); (case q38k => k_is)))
    (case F_is_whole => (refine' LW.ft_mk KX G ?q39a ?q39l ?q39c ?q39k; (case q39a => k_is); (case q39l => k_is); (case q39c => k_is); (case q39k => k_is)))
    (case F_law => (refine' LW.ft_mk KX G ?q40a ?q40l ?q40c ?q40k; (case q40a => k_is); (case q40l => k_is); (case q40c => k_is); (case q40k => k_is)))
    (case F_with_inside => (refine' LW.ft_mk KX G ?q41a ?q41l ?q41c ?q41k; (case q41a => k_is); (case q41l => k_is); (case q41c => k_is); (case q41k => k_is)))
    (case a_Rule_form => (unfold L2.NoAttr; k_is))
    (case c_Rule => (refine' PySem.W.mg_of KX G ?q43a; (case q43a => k_is)))
    (case em => exact LW.em_cons KX G (by k_is) (by k_is) (by k_is) (by k_is) (by k_is) (by k_is) (LW.em_nil))
    (case g_LETTERS => (refine' LW.gs_mk KX G ?q45a; (case q45a => k_is)))
    (case isi => (refine' LW.isi1_mk (PySem.W.mg_of KX G ?q46a) (LW.cf_mk ?q46pg ?q46hd ?q46po ?q46sa ?q46ha ?q46hn ?q46htk ?q46hm) ?q46oo ?q46b1 ?q46b2 ?q46b3 ?q46b4 ?q46b5 ?q46b6 ?q46b7 ?q46d1 ?q46d2 ?q46d3 ?q46d4 ?q46d5 ?q46d6; (case q46a => k_is); (case q46pg => k_is); (case q46hd => k_is); (case q46po => k_is); (case q46sa => k_is); (case q46ha => k_is); (case q46hn => k_is); (case q46htk => k_is); (case q46hm => k_is); (case q46oo => kit_is); (case q46b1 => kit_is); (case q46b2 => kit_is); (case q46b3 => kit_is); (case q46b4 => kit_is); (case q46b5 => kit_is); (case q46b6 => kit_is); (case q46b7 => kit_is); (case q46d1 => kit_is); (case q46d2 => kit_is); (case q46d3 => kit_is); (case q46d4 => kit_is); (case q46d5 => kit_is); (case q46d6 => kit_is)))
    (case k_Rule => (refine' L2.Cls.mk ?q47pg ?q47hd ?q47po ?q47sa; (case q47pg => k_is); (case q47hd => k_is); (case q47po => k_is); (case q47sa => k_is)))
    (case lf_InvalidTerm => (refine' LW.lf_mk KX G ?q48a ?q48l ?q48lL ?q48fL ?q48sa ?q48ga ?q48gg ?q48nv ?q48iC ?q48tC ?q48kc ?q48ex ?q48va ?q48ty ?q48op ?q48mr ?q48hd ?q48lf ?q48lc ?q48lT ?q48ld ?q48lcc ?q48hr ?q48hv ?q48hfile ?q48hline ?q48top; (case q48a => k_is); (case q48l => k_is); (case q48lL => k_is); (case q48fL => k_is); (case q48sa => k_is); (case q48ga => k_is); (case q48gg => k_is); (case q48nv => k_is); (case q48iC => k_is); (case q48tC => k_is); (case q48kc => k_is); (case q48ex => k_is); (case q48va => k_is); (case q48ty => k_is); (case q48op => k_is); (case q48mr => k_is); (case q48hd => k_is); (case q48lf => k_is); (case q48lc => k_is); (case q48lT => k_is); (case q48ld => k_is); (case q48lcc => k_is); (case q48hr => first | rfl | decide +kernel); (case q48hv => first | rfl | decide +kernel); (case q48hfile => first | rfl | decide +kernel); (case q48hline => first | rfl | decide +kernel); (case q48top => first | rfl | decide +kernel)))
    (case n_bool => (refine' PySem.W.mg_none_of KX G ?q49a; (case q49a => k_is)))
    (case n_int => (refine' PySem.W.mg_none_of KX G ?q50a; (case q50a => k_is)))
    (case n_isinstance => (refine' PySem.W.mg_none_of KX G ?q51a; (case q51a => k_is)))
    (case n_len => (refine' PySem.W.mg_none_of KX G ?q52a; (case q52a => k_is)))
    (case n_list => (refine' PySem.W.mg_none_of KX G ?q53a; (case q53a => k_is)))
    (case n_max => (refine' PySem.W.mg_none_of KX G ?q54a; (case q54a => k_is)))
    (case n_min => (refine' PySem.W.mg_none_of KX G ?q55a; (case q55a => k_is)))
    (case n_range => (refine' PySem.W.mg_none_of KX G ?q56a; (case q56a => k_is)))
    (case n_repr => (refine' PySem.W.mg_none_of KX G ?q57a; (case q57a => k_is)))
    (case n_str => (refine' PySem.W.mg_none_of KX G ?q58a; (case q58a => k_is)))
    (case n_sum => (refine' PySem.W.mg_none_of KX G ?q59a; (case q59a => k_is)))
    (case n_super => (refine' PySem.W.mg_none_of KX G ?q60a; (case q60a => k_is)))
    (case n_tuple => (refine' PySem.W.mg_none_of KX G ?q61a; (case q61a => k_is)))
    (case ne_Rule => k_is)
    (case nf_Rule => (refine' LW.nf1_mk (PySem.W.mg_of KX G ?q63a) ?q63o ?q63b1 ?q63b2 ?q63b3 ?q63b4 ?q63b5 ?q63b6 ?q63b7; (case q63a => k_is); (case q63o => k_is); (case q63b1 => k_is); (case q63b2 => k_is); (case q63b3 => k_is); (case q63b4 => k_is); (case q63b5 => k_is); (case q63b6 => k_is); (case q63b7 => k_is)))
    (case ob_Rule => k_is)
