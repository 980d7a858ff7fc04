import PyProof.Rows.All
import Wide.All
import OpenK.AllK
import Wide.FinOn
import PyProof.EqAt
import PyProof.EqKinds
import PyProof.TupleCall
import HandS.ForMost
import HandS.Walk
import KE.KDictKeyed
import HandS.HeadHook2
import HandS.Head0
import HandS.Head1
import HandS.Head2
import HandS.TupMul
import HandS.Deep
import HandS.TupLe
import HandS.TupAny
import HandS.IsInst
import HandS.Star
import HandS.RaiseMore
import HandS.WordsDict
import HandS.Zip
import KE.DataMinMax
import HandS.TryOnly
import KE.GoesNew
import HandS.Style
import HandS.SortKw
import HandS.SetFor
import HandS.SetKeys
import HandS.DictComp
import HandS.OwnEq
import HandS.Strs
import HandS.TupSets
import KE.KDictZip
import HandS.Conv
import PyProof.ReprRoads
import HandS.Defaults
import HandS.HeadEnd
import HandS.Sort
import PySem.Challenge.RW_insteadof_k22_whole_rails_and_strings_by
set_option Elab.async false
set_option linter.all false
set_option maxRecDepth 100000
set_option maxHeartbeats 4000000
/-! IvA: values as trees, the machine's own heap, how both stand for the abstract heap. -/
namespace Iv
open PySem PySem.Spec PyProof.Rows L2

/-- a value: data as trees; ref n: the n-th object that may still change -/
inductive IV where
  | non | bl (b : Bool) | int (i : Int) | str (s : Str)
  | tup (xs : List IV) | lst (xs : List IV)
  | dic (ks vs : List IV)
  | ins (c : Nat) (ns : List Nat) (vs : List IV)
  | rdl (xs : List IV)
  | tpx (xs : List IV)
  | dcn (ks vs : List IV)
  | rng (a b : Int)
  | ref (n : Nat)

/-- an object that may change -/
inductive IO where
  | lst (xs : List IV)
  | dic (ks vs : List IV)
  | dcn (ks vs : List IV)
  | ins (c : Nat) (ns : List Nat) (vs : List IV)

abbrev IH := List (Option IO)

/-- what the names of the text stand for -/
structure Gx where
  K : PySem.W.Frag
  P : Program
  w : World
  cad : Nat → Addr
  fnm : Nat → Str
  nf : Nat
  nc : Nat

/-- an instance's fields: known names, as many values -/
def InsOk (G : Gx) (c : Nat) (ns : List Nat) (n : Nat) : Prop := c < G.nc ∧ ns.length = n ∧ ns.length < 1000 ∧ ∀ m ∈ ns, m < G.nf

/-- a key of a dict that is carried by value -/
def kOf : V → Option Key
  | .int i => some (.inl i)
  | .str s => some (.inr s)
  | _ => none
def kOfs : List V → Option (List Key)
  | [] => some []
  | v :: r => match kOf v, kOfs r with
    | some k, some ks => some (k :: ks)
    | _, _ => none
/-- at p stands a dict of keys ks and values vs -/
def DicAt (G : Gx) (H : Hp) (p : Addr) (ks vs : List V) : Prop := ∃ kk, kOfs ks = some kk ∧ ks.length = vs.length ∧ H p = some (.dK (kk.zip vs))


mutual
def nkI : IV → Option NestedKey
  | .non => some .none
  | .bl b => some (.num (if b then 1 else 0))
  | .int i => some (.num i)
  | .str s => some (.text s)
  | .tup xs => (nksI xs).map .tup
  | .tpx xs => (nksI xs).map .tup
  | _ => none
def nksI : List IV → Option (List NestedKey)
  | [] => some []
  | x :: xs => match nkI x, nksI xs with
    | some k, some ks => some (k :: ks)
    | _, _ => none
end
/-- the keys of such a dict: tuples, not too deep -/
def nkey (x : IV) : Option NestedKey := match x with
  | .tup xs => match nksI xs with
    | some ks => if NestedKey.depth (.tup ks) ≤ 8 then some (.tup ks) else none
    | none => none
  | .tpx xs => match nksI xs with
    | some ks => if NestedKey.depth (.tup ks) ≤ 8 then some (.tup ks) else none
    | none => none
  | _ => none
def nkeys : List IV → Option (List NestedKey)
  | [] => some []
  | x :: xs => match nkey x, nkeys xs with
    | some k, some ks => some (k :: ks)
    | _, _ => none
/-- at p stands a dict whose keys are the tuples ks, known as nks -/
def DicN (G : Gx) (H : Hp) (p : Addr) (nks : List NestedKey) (ks vs : List V) : Prop :=
  ∃ (o : Obj) (es : Array DictEntry) (ep : Nat) (xs : List (NestedKey × Addr × Value)), H p = some (.ext fun h => h.get? p = some o) ∧ o.ExactDict ∧ o.data = .dict es ep ∧ es.toList = xs.map (entryOfKey (nestedKind G.P G.w)) ∧
    (xs.map (·.1)).Nodup ∧ xs.map (·.1) = nks ∧ ks = xs.map (fun x => V.ref x.2.1) ∧ Vals vs (xs.map (·.2.2)) ∧ (p == sysModules) = false ∧ xs.length ≤ sizeLine

/-- a list that changes no more -/
def SqF (K : PySem.W.Frag) (lv : Addr → Prop) (H : Hp) (p : Addr) (vs : List V) : Prop :=
  (Rd H p (.lst vs) ∧ ¬ lv p) ∨
    ∃ (o : Obj) (its : Array Value) (n : Nat), K.lookup p = some o ∧ o.cls = .type "list" ∧ o.dict = none ∧ o.data = .seq its n ∧ its.size ≤ sizeLine ∧ Vals vs its.toList
theorem SqF.sq {K : PySem.W.Frag} {lv : Addr → Prop} {H : Hp} {p : Addr} {vs : List V} (h : SqF K lv H p vs) : SqL K H p vs := by
  rcases h with ⟨h, _⟩ | h
  · exact .inl h
  · exact .inr h

/-- a tuple whose object is known -/
def SqX (H : Hp) (p : Addr) (vs : List V) : Prop := ∃ o : Obj, H p = some (.frz o (.tup vs)) ∧ o.dict = none
theorem SqX.sq {K : PySem.W.Frag} {H : Hp} {p : Addr} {vs : List V} (h : SqX H p vs) : SqT K H p vs := let ⟨o, e, _⟩ := h; .inl (.inr ⟨o, e⟩)
mutual
/-- v stands for the tree; lv: what may still change; φ: where the objects stand -/
def RV (G : Gx) (lv : Addr → Prop) (φ : List Addr) (H : Hp) : IV → V → Prop
  | .non, v => v = .non
  | .bl b, v => v = .bl b
  | .int i, v => v = .int i
  | .str s, v => v = .str s
  | .tup xs, v => ∃ p vs, v = .ref p ∧ SqT G.K H p vs ∧ RVs G lv φ H xs vs
  | .lst xs, v => ∃ p vs, v = .ref p ∧ ¬ lv p ∧ H p = some (.lst vs) ∧ RVs G lv φ H xs vs
  | .dic ks vs, v => ∃ p ks' vs', v = .ref p ∧ ¬ lv p ∧ DicAt G H p ks' vs' ∧ RVs G lv φ H ks ks' ∧ RVs G lv φ H vs vs'
  | .ins c ns vs, v => ∃ p dx fvs, v = .ref p ∧ ¬ lv p ∧ H p = some (.ins (G.cad c) dx ((ns.map G.fnm).zip fvs)) ∧ InsOk G c ns vs.length ∧ RVs G lv φ H vs fvs
  | .rdl xs, v => ∃ p vs, v = .ref p ∧ SqF G.K lv H p vs ∧ RVs G lv φ H xs vs
  | .tpx xs, v => ∃ p vs, v = .ref p ∧ SqX H p vs ∧ RVs G lv φ H xs vs
  | .dcn ks vs, v => ∃ p nks ks' vs', v = .ref p ∧ ¬ lv p ∧ DicN G H p nks ks' vs' ∧ nkeys ks = some nks ∧ RVs G lv φ H ks ks' ∧ RVs G lv φ H vs vs'
  | .rng i j, v => ∃ p, v = .ref p ∧ H p = some (.rng i j)
  | .ref n, v => ∃ a, φ[n]? = some a ∧ v = .ref a
def RVs (G : Gx) (lv : Addr → Prop) (φ : List Addr) (H : Hp) : List IV → List V → Prop
  | [], vs => vs = []
  | x :: xs, vs => ∃ v r, vs = v :: r ∧ RV G lv φ H x v ∧ RVs G lv φ H xs r
end

/-- what stands still stands -/
structure Ext (lv : Addr → Prop) (φ : List Addr) (H : Hp) (lv' : Addr → Prop) (φ' : List Addr) (H' : Hp) : Prop where
  keep : ∀ a o, H a = some o → ¬ lv a → H' a = some o
  live : ∀ a o, H a = some o → ¬ lv a → ¬ lv' a
  pre : ∃ ψ, φ' = φ ++ ψ

section
variable {G : Gx} {lv lv' lv2 : Addr → Prop} {φ φ' φ2 : List Addr} {H H' H2 : Hp}
theorem Ext.refl : Ext lv φ H lv φ H := ⟨fun _ _ h _ => h, fun _ _ _ h => h, [], by simp⟩
theorem Ext.trans (a : Ext lv φ H lv' φ' H') (b : Ext lv' φ' H' lv2 φ2 H2) : Ext lv φ H lv2 φ2 H2 := by
  refine ⟨fun x o h n => b.keep x o (a.keep x o h n) (a.live x o h n), fun x o h n => b.live x o (a.keep x o h n) (a.live x o h n), ?_⟩
  obtain ⟨p, rfl⟩ := a.pre
  obtain ⟨q, rfl⟩ := b.pre
  exact ⟨p ++ q, by simp⟩
theorem mut_not_tup {a : Addr} {vs : List V} (m : Mut (H a)) (h : H a = some (.tup vs)) : False := by
  rw [h] at m
  exact m
theorem mut_not_rng {a : Addr} {i j : Int} (m : Mut (H a)) (h : H a = some (.rng i j)) : False := by
  rw [h] at m
  exact m
theorem mut_not_frz {a : Addr} {o : Obj} {u : HO} (m : Mut (H a)) (h : H a = some (.frz o u)) : False := by
  rw [h] at m
  exact m
theorem Ext.sqT (x : Ext lv φ H lv' φ' H') (ok : ∀ a, lv a → Mut (H a)) {p : Addr} {vs : List V} (h : SqT G.K H p vs) : SqT G.K H' p vs := by
  rcases h with (h | ⟨o, h⟩) | h
  · exact .inl (.inl (x.keep _ _ h fun l => mut_not_tup (ok p l) h))
  · exact .inl (.inr ⟨o, x.keep _ _ h fun l => mut_not_frz (ok p l) h⟩)
  · exact .inr h
theorem Ext.sqF (x : Ext lv φ H lv' φ' H') (ok : ∀ a, lv a → Mut (H a)) {p : Addr} {vs : List V} (h : SqF G.K lv H p vs) : SqF G.K lv' H' p vs := by
  rcases h with ⟨h | ⟨o, h⟩, n⟩ | h
  · exact .inl ⟨.inl (x.keep _ _ h n), x.live _ _ h n⟩
  · exact .inl ⟨.inr ⟨o, x.keep _ _ h n⟩, x.live _ _ h n⟩
  · exact .inr h
theorem Ext.dicAt (x : Ext lv φ H lv' φ' H') {p : Addr} {ks vs : List V} (h : DicAt G H p ks vs) (n : ¬ lv p) : DicAt G H' p ks vs := by
  obtain ⟨kk, e, l, h⟩ := h
  exact ⟨kk, e, l, x.keep _ _ h n⟩
theorem Ext.dicN (x : Ext lv φ H lv' φ' H') {p : Addr} {nks : List NestedKey} {ks vs : List V} (h : DicN G H p nks ks vs) (n : ¬ lv p) : DicN G H' p nks ks vs := by
  obtain ⟨o, es, ep, xs, h, r⟩ := h
  exact ⟨o, es, ep, xs, x.keep _ _ h n, r⟩
theorem DicN.some {p : Addr} {nks : List NestedKey} {ks vs : List V} (h : DicN G H p nks ks vs) : ∃ o, H p = some o := by
  obtain ⟨o, es, ep, xs, h, _⟩ := h
  exact ⟨_, h⟩
theorem DicAt.some {p : Addr} {ks vs : List V} (h : DicAt G H p ks vs) : ∃ o, H p = some o := by
  obtain ⟨kk, e, l, h⟩ := h
  exact ⟨_, h⟩
mutual
theorem RV.mono (x : Ext lv φ H lv' φ' H') (ok : ∀ a, lv a → Mut (H a)) : ∀ (i : IV) {v : V}, RV G lv φ H i v → RV G lv' φ' H' i v
  | .non, v, h => by simpa only [RV] using h
  | .bl b, v, h => by simpa only [RV] using h
  | .int i, v, h => by simpa only [RV] using h
  | .str s, v, h => by simpa only [RV] using h
  | .tup xs, v, h => by
    simp only [RV] at h ⊢
    obtain ⟨p, vs, e, q, r⟩ := h
    exact ⟨p, vs, e, x.sqT ok q, RVs.mono x ok xs r⟩
  | .lst xs, v, h => by
    simp only [RV] at h ⊢
    obtain ⟨p, vs, e, n, q, r⟩ := h
    exact ⟨p, vs, e, x.live _ _ q n, x.keep _ _ q n, RVs.mono x ok xs r⟩
  | .rdl xs, v, h => by
    simp only [RV] at h ⊢
    obtain ⟨p, vs, e, q, r⟩ := h
    exact ⟨p, vs, e, x.sqF ok q, RVs.mono x ok xs r⟩
  | .dic ks vs, v, h => by
    simp only [RV] at h ⊢
    obtain ⟨p, ks', vs', e, n, q, r1, r2⟩ := h
    obtain ⟨o, ho⟩ := q.some
    exact ⟨p, ks', vs', e, x.live _ _ ho n, x.dicAt q n, RVs.mono x ok ks r1, RVs.mono x ok vs r2⟩
  | .ins c ns vs, v, h => by
    simp only [RV] at h ⊢
    obtain ⟨p, dx, fvs, e, n, q, l, r⟩ := h
    exact ⟨p, dx, fvs, e, x.live _ _ q n, x.keep _ _ q n, l, RVs.mono x ok vs r⟩
  | .dcn ks vs, v, h => by
    simp only [RV] at h ⊢
    obtain ⟨p, nks, ks', vs', e, n, q, nk, r1, r2⟩ := h
    obtain ⟨o, ho⟩ := q.some
    exact ⟨p, nks, ks', vs', e, x.live _ _ ho n, x.dicN q n, nk, RVs.mono x ok ks r1, RVs.mono x ok vs r2⟩
  | .tpx xs, v, h => by
    simp only [RV] at h ⊢
    obtain ⟨p, vs, e, ⟨o, q, d⟩, r⟩ := h
    exact ⟨p, vs, e, ⟨o, x.keep _ _ q fun l => mut_not_frz (ok p l) q, d⟩, RVs.mono x ok xs r⟩
  | .rng i j, v, h => by
    simp only [RV] at h ⊢
    obtain ⟨p, e, q⟩ := h
    exact ⟨p, e, x.keep _ _ q fun l => mut_not_rng (ok p l) q⟩
  | .ref n, v, h => by
    simp only [RV] at h ⊢
    obtain ⟨a, e, q⟩ := h
    obtain ⟨ψ, rfl⟩ := x.pre
    refine ⟨a, ?_, q⟩
    rw [List.getElem?_append_left (List.getElem?_eq_some_iff.mp e).1]
    exact e
theorem RVs.mono (x : Ext lv φ H lv' φ' H') (ok : ∀ a, lv a → Mut (H a)) : ∀ (xs : List IV) {vs : List V}, RVs G lv φ H xs vs → RVs G lv' φ' H' xs vs
  | [], vs, h => by simpa only [RVs] using h
  | y :: ys, vs, h => by
    simp only [RVs] at h ⊢
    obtain ⟨v, r, e, q, s⟩ := h
    exact ⟨v, r, e, RV.mono x ok y q, RVs.mono x ok ys s⟩
end
theorem RVs.length : ∀ {xs : List IV} {vs : List V}, RVs G lv φ H xs vs → vs.length = xs.length
  | [], vs, h => by
    simp only [RVs] at h
    rw [h]
    rfl
  | y :: ys, vs, h => by
    simp only [RVs] at h
    obtain ⟨v, r, rfl, _, s⟩ := h
    rw [List.length_cons, List.length_cons, RVs.length s]
theorem RVs.get : ∀ {xs : List IV} {vs : List V} {i : Nat} {x : IV}, RVs G lv φ H xs vs → xs[i]? = some x → ∃ v, vs[i]? = some v ∧ RV G lv φ H x v
  | [], vs, i, x, h, e => by simp at e
  | y :: ys, vs, i, x, h, e => by
    simp only [RVs] at h
    obtain ⟨v, r, rfl, q, s⟩ := h
    cases i with
    | zero =>
      simp at e
      subst e
      exact ⟨v, by simp, q⟩
    | succ i =>
      obtain ⟨u, e1, e2⟩ := RVs.get (i := i) (x := x) s (by simpa using e)
      exact ⟨u, by simpa using e1, e2⟩
theorem RVs.append : ∀ {xs ys : List IV} {vs us : List V}, RVs G lv φ H xs vs → RVs G lv φ H ys us → RVs G lv φ H (xs ++ ys) (vs ++ us)
  | [], ys, vs, us, h, g => by
    simp only [RVs] at h
    subst h
    exact g
  | y :: xs, ys, vs, us, h, g => by
    simp only [RVs] at h
    obtain ⟨v, r, rfl, q, s⟩ := h
    simp only [List.cons_append, RVs]
    exact ⟨v, r ++ us, rfl, q, RVs.append s g⟩
theorem RVs.snoc {xs : List IV} {y : IV} {vs : List V} {u : V} (h : RVs G lv φ H xs vs) (g : RV G lv φ H y u) : RVs G lv φ H (xs ++ [y]) (vs ++ [u]) :=
  RVs.append h (by simp only [RVs]; exact ⟨u, [], rfl, g, rfl⟩)
theorem RVs.set : ∀ {xs : List IV} {vs : List V} {i : Nat} {x : IV} {v : V}, RVs G lv φ H xs vs → RV G lv φ H x v → RVs G lv φ H (xs.set i x) (vs.set i v)
  | [], vs, i, x, v, h, e => by
    simp only [RVs] at h
    subst h
    simp [RVs]
  | y :: ys, vs, i, x, v, h, e => by
    simp only [RVs] at h
    obtain ⟨u, r, rfl, q, s⟩ := h
    cases i with
    | zero =>
      simp only [List.set_cons_zero, RVs]
      exact ⟨v, r, rfl, e, s⟩
    | succ i =>
      simp only [List.set_cons_succ, RVs]
      exact ⟨u, r.set i v, rfl, q, RVs.set s e⟩

/-! ### the machine's heap -/
def RO (G : Gx) (lv : Addr → Prop) (φ : List Addr) (H : Hp) (a : Addr) : IO → Prop
  | .lst xs => ∃ vs, H a = some (.lst vs) ∧ RVs G lv φ H xs vs
  | .dic ks vs => ∃ ks' vs', DicAt G H a ks' vs' ∧ RVs G lv φ H ks ks' ∧ RVs G lv φ H vs vs'
  | .dcn ks vs => ∃ nks ks' vs', DicN G H a nks ks' vs' ∧ nkeys ks = some nks ∧ RVs G lv φ H ks ks' ∧ RVs G lv φ H vs vs'
  | .ins c ns vs => ∃ dx fvs, H a = some (.ins (G.cad c) dx ((ns.map G.fnm).zip fvs)) ∧ InsOk G c ns vs.length ∧ RVs G lv φ H vs fvs
/-- what may still change: the objects outside, and ours that live -/
def Lv (O : Addr → Prop) (h : IH) (φ : List Addr) : Addr → Prop := fun a => O a ∨ ∃ (i : Nat) (o : IO), h[i]? = some (some o) ∧ φ[i]? = some a
structure Rep (G : Gx) (O : Addr → Prop) (h : IH) (φ : List Addr) (H : Hp) : Prop where
  len : φ.length = h.length
  nd : ∀ (i j : Nat) (a : Addr) (o o' : IO), φ[i]? = some a → φ[j]? = some a → h[i]? = some (some o) → h[j]? = some (some o') → i = j
  out : ∀ a, O a → Mut (H a)
  dis : ∀ (i : Nat) (a : Addr) (o : IO), h[i]? = some (some o) → φ[i]? = some a → ¬ O a
  obj : ∀ (i : Nat) (o : IO) (a : Addr), h[i]? = some (some o) → φ[i]? = some a → RO G (Lv O h φ) φ H a o
theorem RO.mut {a : Addr} {o : IO} (r : RO G lv φ H a o) : Mut (H a) := by
  cases o with
  | lst xs =>
    obtain ⟨vs, e, _⟩ := r
    rw [e]
    trivial
  | dic ks vs =>
    obtain ⟨ks', vs', ⟨kk, _, _, e⟩, _⟩ := r
    rw [e]
    trivial
  | dcn ks vs =>
    obtain ⟨nks, ks', vs', ⟨o, es, ep, xs, e, _⟩, _⟩ := r
    rw [e]
    trivial
  | ins c ns vs =>
    obtain ⟨dx, fvs, e, _⟩ := r
    rw [e]
    trivial
theorem Rep.ok {O : Addr → Prop} {h : IH} (R : Rep G O h φ H) : ∀ a, Lv O h φ a → Mut (H a) := by
  rintro a (l | ⟨i, o, e1, e2⟩)
  · exact R.out a l
  · exact (R.obj i o a e1 e2).mut
/-- from a state to a state -/
structure Go (G : Gx) (O : Addr → Prop) (h : IH) (φ : List Addr) (H : Hp) (h' : IH) (φ' : List Addr) (H' : Hp) : Prop where
  rep : Rep G O h' φ' H'
  ext : Ext (Lv O h φ) φ H (Lv O h' φ') φ' H'
  outk : ∀ a, O a → H' a = H a
theorem Go.refl {O : Addr → Prop} {h : IH} (R : Rep G O h φ H) : Go G O h φ H h φ H := ⟨R, .refl, fun _ _ => rfl⟩
theorem Go.trans {O : Addr → Prop} {h h' h2 : IH} (a : Go G O h φ H h' φ' H') (b : Go G O h' φ' H' h2 φ2 H2) : Go G O h φ H h2 φ2 H2 :=
  ⟨b.rep, a.ext.trans b.ext, fun x o => (b.outk x o).trans (a.outk x o)⟩
theorem RO.mono (x : Ext lv φ H lv' φ' H') (ok : ∀ a, lv a → Mut (H a)) {a : Addr} {o : IO} (e : H' a = H a) (r : RO G lv φ H a o) : RO G lv' φ' H' a o := by
  cases o with
  | lst xs =>
    obtain ⟨vs, q, s⟩ := r
    exact ⟨vs, e.trans q, RVs.mono x ok _ s⟩
  | dic ks vs =>
    obtain ⟨ks', vs', ⟨kk, e1, e2, e3⟩, r1, r2⟩ := r
    exact ⟨ks', vs', ⟨kk, e1, e2, e.trans e3⟩, RVs.mono x ok _ r1, RVs.mono x ok _ r2⟩
  | dcn ks vs =>
    obtain ⟨nks, ks', vs', ⟨o, es, ep, xs, q, z⟩, nk, r1, r2⟩ := r
    exact ⟨nks, ks', vs', ⟨o, es, ep, xs, e.trans q, z⟩, nk, RVs.mono x ok _ r1, RVs.mono x ok _ r2⟩
  | ins c ns vs =>
    obtain ⟨dx, fvs, q, l, s⟩ := r
    exact ⟨dx, fvs, e.trans q, l, RVs.mono x ok _ s⟩
/-- all that was tracked stands as it stood -/
theorem Go.same {O : Addr → Prop} {h : IH} (R : Rep G O h φ H) (s : Same H H') : Go G O h φ H h φ H' := by
  have x : Ext (Lv O h φ) φ H (Lv O h φ) φ H' := ⟨fun a o e _ => s a o e, fun _ _ _ n => n, [], by simp⟩
  have at_ : ∀ a, Mut (H a) → H' a = H a := fun a m => by
    cases q : H a with
    | none =>
      rw [q] at m
      exact m.elim
    | some o => exact s a o q
  exact ⟨⟨R.len, R.nd, fun a l => by rw [at_ a (R.out a l)]; exact R.out a l, R.dis, fun i o a e1 e2 => (R.obj i o a e1 e2).mono x R.ok (at_ a (R.obj i o a e1 e2).mut)⟩, x, fun a l => at_ a (R.out a l)⟩
/-- a new object, not ours -/
theorem same_upd {p : Addr} {o : HO} (n : H p = none) : Same H (upd H p o) := fun b u e => by
  rw [upd_ne (ne_of_none e n)]
  exact e
end
end Iv

/-! IwG0: what the head asks of the heap, as tests; the Hook. -/
namespace Iv
open PySem PySem.Spec PyProof.Rows L2
mutual
def kT (K : PySem.W.Frag) : IV → Value → Bool
  | .int i, .int j _ => decide (i = j)
  | .str s, .str t _ => decide (s = t)
  | .tup xs, .ref a => match K.lookup a with
    | some ⟨.type c, _, .seq its _, _⟩ => decide (c = "tuple") && (decide (its.size ≤ sizeLine) && kTs K xs its.toList)
    | _ => false
  | _, _ => false
def kTs (K : PySem.W.Frag) : List IV → List Value → Bool
  | [], [] => true
  | x :: xs, v :: vs => kT K x v && kTs K xs vs
  | _, _ => false
end
def cB (K : PySem.W.Frag) (x : Str) (c : IV) : Bool := match PySem.W.nsIn K mainGlobals x with
  | some (some u) => kT K c u
  | _ => false
/-- a class's own == -/
def ownB (K : PySem.W.Frag) (x : Str) : Bool := decide (PySem.W.findIn K (.ref (He.ga K x)) "__eq__" = some (some (.ref (He.ma K (He.ga K x) "__eq__")))) && (decide (PySem.W.findIn K (.ref (He.ga K x)) "__ne__" = some (some (.builtin "object.__ne__"))) &&
  (decide (PySem.W.mroIn K (He.ga K x) (.type "object") = some true) && PySem.W.isFn K (.ref (He.ma K (He.ga K x) "__eq__"))))
/-- the Hook -/
def hookX (n : Nat) (fa : List He.Fa) (fn : List He.DefD) (ck : PySem.W.Frag → Bool) : PySem.W.Hook where
  α := He.AlD × Bool
  obs := fun s => (He.obsDG n fa fn s.heap.get?, ck (He.frG s.heap.get? (He.asD s.heap.get? n)))
  val := fun _ => (He.valD fn, true)
  says := fun _ h => ∃ K : PySem.W.Frag, K.In h ∧ He.SaysD fa fn K ∧ ck K = true
  of := fun _ _ e => ⟨_, He.frG_in, congrArg (fun z : He.AlD × Bool => z.1) e, congrArg (fun z : He.AlD × Bool => z.2) e⟩
  keeps := fun _ _ _ ⟨K, hK, c⟩ k => ⟨K, PySem.W.Frag.In.keeps hK k, c⟩
def clsB (K : PySem.W.Frag) (x : Str) : Bool := (He.Fa.cls x).ok K && (decide (PySem.W.findIn K (.ref (He.ga K x)) "__class__" = some (some (.builtin "object.__class__"))) && (decide (PySem.W.specialIn K (.builtin "object.__class__") "__get__" = some (some (.builtin "getset_descriptor.__get__"))) &&
  (decide (PySem.W.takesIn K (.builtin "object.__class__") = some true) && decide (PySem.W.mroIn K (He.ga K x) (.type "object") = some true))))
/-- the classes and the fields -/
def facB (K : PySem.W.Frag) (cs fs : List Str) : Bool := cs.all (fun c => clsB K c) && cs.all fun c => fs.all fun f => (He.Fa.noat c f).ok K
def tyL : List String := ["NoneType", "bool", "int", "str", "tuple", "list", "dict"]
def isB (nc : Nat) (cad : Nat → Addr) (ys : List String) (cs : List Nat) (F : Value → Option Bool) : Bool := tyL.all (fun s => decide (F (.type s) = some (decide (s ∈ ys)))) && (List.range nc).all fun c => decide (F (.ref (cad c)) = some (decide (c ∈ cs)))
def inS (s : Stmt) (k : Nat) : Stmt := match s with
  | .ClassDef _ _ _ b _ _ _ _ _ _ _ => b.getD k (.Pass ⟨0, 0, 0, 0⟩)
  | _ => .Pass ⟨0, 0, 0, 0⟩
end Iv

namespace L22
open PySem Iv
def c_LETTERS : IV := .str "abcdefghijklmnopqrstuvwxyz"
def c_SIGNS : IV := .str "abcdefghijklmnopqrstuvwxyz0123456789"
def c_MOST_SIGNS : IV := .int 8
def c_MOST_PIECES : IV := .int 8
def c_MOST_JOINTS : IV := .int 3
def c_MOST_ROPES : IV := .int 40
def c_MOST_KINDS : IV := .int 8
def c_MOST_LONG : IV := .int 60
def c_GRADES : IV := .tup [.int 0, .int 1, .int 3, .int 6]
def c_JOINT_PARTINGS : IV := .tup [.tup [.tup [.int 0]], .tup [.tup [.int 0, .int 0], .tup [.int 0, .int 1]], .tup [.tup [.int 0, .int 0, .int 0], .tup [.int 0, .int 0, .int 1], .tup [.int 0, .int 1, .int 0], .tup [.int 0, .int 1, .int 1], .tup [.int 0, .int 1, .int 2]]]
def c_JOINT_CUTS : IV := .tup [.tup [.int 0], .tup [.int 0, .int 1], .tup [.int 0, .int 1, .int 1, .int 1, .int 2]]
def c_JOINT_STEPS : IV := .tup [.tup [], .tup [.tup [.int 1, .int 0, .int 1]], .tup [.tup [.int 1, .int 0, .int 1], .tup [.int 2, .int 0, .int 1], .tup [.int 3, .int 0, .int 1], .tup [.int 4, .int 0, .int 2], .tup [.int 4, .int 1, .int 1], .tup [.int 4, .int 2, .int 1], .tup [.int 4, .int 3, .int 1]]]
def c_JOINT_JOINS : IV := .tup [.tup [.tup [.int 0]], .tup [.tup [.int 0, .int 0], .tup [.int 0, .int 1]], .tup [.tup [.int 0, .int 0, .int 0, .int 0, .int 0], .tup [.int 0, .int 1, .int 0, .int 0, .int 1], .tup [.int 0, .int 0, .int 2, .int 0, .int 2], .tup [.int 0, .int 0, .int 0, .int 3, .int 3], .tup [.int 0, .int 1, .int 2, .int 3, .int 4]]]
end L22
/-! printed by gen_law.py -/
namespace L22
open PySem PySem.Spec PyProof.Rows L2 Iv
def topS (i : Nat) : Stmt := PySem.Challenge.pw_insteadof_k22_whole_rails_and_strings_by.main.body.getD i (.Pass ⟨0, 0, 0, 0⟩)
def cadF (K : PySem.W.Frag) : Nat → Addr := fun n => match n with | 0 => He.ga K "Kind" | 1 => He.ga K "Kit" | 2 => He.ga K "Word" | 3 => He.ga K "Deed" | _ => 0
def fnmF : Nat → Str := fun n => match n with | 0 => "name" | 1 => "pieces" | 2 => "low" | 3 => "high" | 4 => "ropes" | 5 => "dimension" | 6 => "joints" | 7 => "kinds" | 8 => "grade" | 9 => "names" | 10 => "kit" | 11 => "many" | 12 => "rows" | _ => ""
abbrev GX (P : Program) (w : World) (K : PySem.W.Frag) : Gx := ⟨K, P, w, cadF K, fnmF, 13, 4⟩

end L22
namespace L22
open PySem PySem.Spec PyProof.Rows L2 Iv
def fnL : List He.DefD := [⟨("is_integer", none), "is_integer", "is_integer", defArgs (topS 5), defBody (topS 5), defScope (topS 5), [], []⟩,
  ⟨("is_between", none), "is_between", "is_between", defArgs (topS 6), defBody (topS 6), defScope (topS 6), [], []⟩,
  ⟨("is_name", none), "is_name", "is_name", defArgs (topS 7), defBody (topS 7), defScope (topS 7), [], []⟩,
  ⟨("is_listed", none), "is_listed", "is_listed", defArgs (topS 8), defBody (topS 8), defScope (topS 8), [], []⟩,
  ⟨("ascends", none), "ascends", "ascends", defArgs (topS 9), defBody (topS 9), defScope (topS 9), [], []⟩,
  ⟨("are_unlike", none), "are_unlike", "are_unlike", defArgs (topS 10), defBody (topS 10), defScope (topS 10), [], []⟩,
  ⟨("are_names", none), "are_names", "are_names", defArgs (topS 11), defBody (topS 11), defScope (topS 11), [], []⟩,
  ⟨("blocks_of", none), "blocks_of", "blocks_of", defArgs (topS 23), defBody (topS 23), defScope (topS 23), [], []⟩,
  ⟨("told_by", none), "told_by", "told_by", defArgs (topS 24), defBody (topS 24), defScope (topS 24), [], []⟩,
  ⟨("is_over", none), "is_over", "is_over", defArgs (topS 25), defBody (topS 25), defScope (topS 25), [], []⟩,
  ⟨("partings_of", none), "partings_of", "partings_of", defArgs (topS 26), defBody (topS 26), defScope (topS 26), [], []⟩,
  ⟨("finest", none), "finest", "finest", defArgs (topS 27), defBody (topS 27), defScope (topS 27), [], []⟩,
  ⟨("passing_in", none), "passing_in", "passing_in", defArgs (topS 29), defBody (topS 29), defScope (topS 29), [], []⟩,
  ⟨("is_rope", none), "is_rope", "is_rope", defArgs (topS 34), defBody (topS 34), defScope (topS 34), [], []⟩,
  ⟨("are_ropes", none), "are_ropes", "are_ropes", defArgs (topS 35), defBody (topS 35), defScope (topS 35), [], []⟩,
  ⟨("are_joints", none), "are_joints", "are_joints", defArgs (topS 36), defBody (topS 36), defScope (topS 36), [], []⟩,
  ⟨("Kind", some "__init__"), "__init__", "Kind.__init__", defArgs (inS (topS 37) 0), defBody (inS (topS 37) 0), defScope (inS (topS 37) 0), [], []⟩,
  ⟨("numbers_in", none), "numbers_in", "numbers_in", defArgs (topS 38), defBody (topS 38), defScope (topS 38), [], []⟩,
  ⟨("pairs_in", none), "pairs_in", "pairs_in", defArgs (topS 39), defBody (topS 39), defScope (topS 39), [], []⟩,
  ⟨("are_kinds", none), "are_kinds", "are_kinds", defArgs (topS 43), defBody (topS 43), defScope (topS 43), [], []⟩,
  ⟨("Kit", some "__init__"), "__init__", "Kit.__init__", defArgs (inS (topS 44) 0), defBody (inS (topS 44) 0), defScope (inS (topS 44) 0), [], []⟩,
  ⟨("Kit", some "kind"), "kind", "Kit.kind", defArgs (inS (topS 44) 2), defBody (inS (topS 44) 2), defScope (inS (topS 44) 2), [], []⟩,
  ⟨("need_kit", none), "need_kit", "need_kit", defArgs (topS 45), defBody (topS 45), defScope (topS 45), [.str "kit"], []⟩,
  ⟨("need_grade", none), "need_grade", "need_grade", defArgs (topS 47), defBody (topS 47), defScope (topS 47), [], []⟩,
  ⟨("joint_partings", none), "joint_partings", "joint_partings", defArgs (topS 53), defBody (topS 53), defScope (topS 53), [], []⟩,
  ⟨("cuts_of", none), "cuts_of", "cuts_of", defArgs (topS 54), defBody (topS 54), defScope (topS 54), [], []⟩,
  ⟨("steps_of", none), "steps_of", "steps_of", defArgs (topS 55), defBody (topS 55), defScope (topS 55), [], []⟩,
  ⟨("joins_of", none), "joins_of", "joins_of", defArgs (topS 56), defBody (topS 56), defScope (topS 56), [], []⟩,
  ⟨("fixed", none), "fixed", "fixed", defArgs (topS 58), defBody (topS 58), defScope (topS 58), [], []⟩,
  ⟨("storey_on", none), "storey_on", "storey_on", defArgs (topS 60), defBody (topS 60), defScope (topS 60), [], []⟩,
  ⟨("high_of", none), "high_of", "high_of", defArgs (topS 61), defBody (topS 61), defScope (topS 61), [], []⟩,
  ⟨("are_kinds_of", none), "are_kinds_of", "are_kinds_of", defArgs (topS 64), defBody (topS 64), defScope (topS 64), [], []⟩,
  ⟨("Word", some "__init__"), "__init__", "Word.__init__", defArgs (inS (topS 65) 0), defBody (inS (topS 65) 0), defScope (inS (topS 65) 0), [], []⟩,
  ⟨("need_word", none), "need_word", "need_word", defArgs (topS 66), defBody (topS 66), defScope (topS 66), [.str "word"], []⟩,
  ⟨("need_two_words", none), "need_two_words", "need_two_words", defArgs (topS 67), defBody (topS 67), defScope (topS 67), [], []⟩,
  ⟨("is_row", none), "is_row", "is_row", defArgs (topS 69), defBody (topS 69), defScope (topS 69), [], []⟩,
  ⟨("is_steady", none), "is_steady", "is_steady", defArgs (topS 70), defBody (topS 70), defScope (topS 70), [], []⟩,
  ⟨("are_rows", none), "are_rows", "are_rows", defArgs (topS 71), defBody (topS 71), defScope (topS 71), [], []⟩,
  ⟨("Deed", some "__init__"), "__init__", "Deed.__init__", defArgs (inS (topS 72) 0), defBody (inS (topS 72) 0), defScope (inS (topS 72) 0), [], []⟩,
  ⟨("Deed", some "__eq__"), "__eq__", "Deed.__eq__", defArgs (inS (topS 72) 1), defBody (inS (topS 72) 1), defScope (inS (topS 72) 1), [], []⟩,
  ⟨("lost_deed", none), "lost_deed", "lost_deed", defArgs (topS 73), defBody (topS 73), defScope (topS 73), [], []⟩,
  ⟨("empty_rows", none), "empty_rows", "empty_rows", defArgs (topS 74), defBody (topS 74), defScope (topS 74), [], []⟩,
  ⟨("exact_rows", none), "exact_rows", "exact_rows", defArgs (topS 75), defBody (topS 75), defScope (topS 75), [], []⟩,
  ⟨("kind_rows", none), "kind_rows", "kind_rows", defArgs (topS 76), defBody (topS 76), defScope (topS 76), [], []⟩,
  ⟨("made_deed", none), "made_deed", "made_deed", defArgs (topS 77), defBody (topS 77), defScope (topS 77), [], []⟩,
  ⟨("after_rows", none), "after_rows", "after_rows", defArgs (topS 78), defBody (topS 78), defScope (topS 78), [], []⟩,
  ⟨("put_after", none), "put_after", "put_after", defArgs (topS 79), defBody (topS 79), defScope (topS 79), [], []⟩,
  ⟨("deed_of_names", none), "deed_of_names", "deed_of_names", defArgs (topS 80), defBody (topS 80), defScope (topS 80), [], []⟩,
  ⟨("kind_deeds", none), "kind_deeds", "kind_deeds", defArgs (topS 81), defBody (topS 81), defScope (topS 81), [], []⟩,
  ⟨("empty_deed", none), "empty_deed", "empty_deed", defArgs (topS 82), defBody (topS 82), defScope (topS 82), [], []⟩,
  ⟨("kind_deed", none), "kind_deed", "kind_deed", defArgs (topS 83), defBody (topS 83), defScope (topS 83), [], []⟩,
  ⟨("deed_of", none), "deed_of", "deed_of", defArgs (topS 84), defBody (topS 84), defScope (topS 84), [], []⟩,
  ⟨("may_swap", none), "may_swap", "may_swap", defArgs (topS 86), defBody (topS 86), defScope (topS 86), [], []⟩,
  ⟨("_law_pen", none), "_law_pen", "_law_pen", defArgs (topS 88), defBody (topS 88), defScope (topS 88), [], []⟩,
  ⟨("_law_draw", none), "_law_draw", "_law_draw", defArgs (topS 89), defBody (topS 89), defScope (topS 89), [], []⟩,
  ⟨("_law_pick", none), "_law_pick", "_law_pick", defArgs (topS 90), defBody (topS 90), defScope (topS 90), [], []⟩,
  ⟨("_law_ce_partings", none), "_law_ce_partings", "_law_ce_partings", defArgs (topS 91), defBody (topS 91), defScope (topS 91), [], []⟩,
  ⟨("_law_ce_told", none), "_law_ce_told", "_law_ce_told", defArgs (topS 92), defBody (topS 92), defScope (topS 92), [], []⟩,
  ⟨("_law_ce_over", none), "_law_ce_over", "_law_ce_over", defArgs (topS 93), defBody (topS 93), defScope (topS 93), [], []⟩,
  ⟨("_law_ce_join", none), "_law_ce_join", "_law_ce_join", defArgs (topS 94), defBody (topS 94), defScope (topS 94), [], []⟩,
  ⟨("_law_ce_through", none), "_law_ce_through", "_law_ce_through", defArgs (topS 95), defBody (topS 95), defScope (topS 95), [], []⟩,
  ⟨("_law_ce_rails", none), "_law_ce_rails", "_law_ce_rails", defArgs (topS 96), defBody (topS 96), defScope (topS 96), [], []⟩,
  ⟨("_law_ce_made", none), "_law_ce_made", "_law_ce_made", defArgs (topS 97), defBody (topS 97), defScope (topS 97), [], []⟩,
  ⟨("_law_ce_grade", none), "_law_ce_grade", "_law_ce_grade", defArgs (topS 98), defBody (topS 98), defScope (topS 98), [], []⟩,
  ⟨("_law_ce_stack", none), "_law_ce_stack", "_law_ce_stack", defArgs (topS 99), defBody (topS 99), defScope (topS 99), [], []⟩,
  ⟨("_law_ce_kind_rows", none), "_law_ce_kind_rows", "_law_ce_kind_rows", defArgs (topS 100), defBody (topS 100), defScope (topS 100), [], []⟩,
  ⟨("_law_ce_empty", none), "_law_ce_empty", "_law_ce_empty", defArgs (topS 101), defBody (topS 101), defScope (topS 101), [], []⟩,
  ⟨("_law_ce_after", none), "_law_ce_after", "_law_ce_after", defArgs (topS 102), defBody (topS 102), defScope (topS 102), [], []⟩,
  ⟨("_law_ce_steps", none), "_law_ce_steps", "_law_ce_steps", defArgs (topS 103), defBody (topS 103), defScope (topS 103), [], []⟩,
  ⟨("_law_ce_deed", none), "_law_ce_deed", "_law_ce_deed", defArgs (topS 104), defBody (topS 104), defScope (topS 104), [], []⟩,
  ⟨("_law_rails_rows", none), "_law_rails_rows", "_law_rails_rows", defArgs (topS 105), defBody (topS 105), defScope (topS 105), [], []⟩,
  ⟨("law", none), "law", "law", defArgs (topS 106), defBody (topS 106), defScope (topS 106), [], []⟩]
def faL : List He.Fa := [.glo "is_integer", .glo "is_between", .glo "is_name", .glo "is_listed", .glo "ascends", .glo "are_unlike", .glo "are_names", .glo "blocks_of", .glo "told_by", .glo "is_over", .glo "partings_of", .glo "finest", .glo "passing_in", .glo "is_rope", .glo "are_ropes", .glo "are_joints", .glo "numbers_in", .glo "pairs_in", .glo "are_kinds", .meth "Kit" "kind", .glo "need_kit", .glo "need_grade", .glo "joint_partings", .glo "cuts_of", .glo "steps_of", .glo "joins_of", .glo "fixed", .glo "storey_on", .glo "high_of", .glo "are_kinds_of", .glo "need_word", .glo "need_two_words", .glo "is_row", .glo "is_steady", .glo "are_rows", .glo "lost_deed", .glo "empty_rows", .glo "exact_rows", .glo "kind_rows", .glo "made_deed", .glo "after_rows", .glo "put_after", .glo "deed_of_names", .glo "kind_deeds", .glo "empty_deed", .glo "kind_deed", .glo "deed_of", .glo "may_swap", .glo "_law_pen", .glo "_law_draw", .glo "_law_pick", .glo "_law_ce_partings", .glo "_law_ce_told", .glo "_law_ce_over", .glo "_law_ce_join", .glo "_law_ce_through", .glo "_law_ce_rails", .glo "_law_ce_made", .glo "_law_ce_grade", .glo "_law_ce_stack", .glo "_law_ce_kind_rows", .glo "_law_ce_empty", .glo "_law_ce_after", .glo "_law_ce_steps", .glo "_law_ce_deed", .glo "_law_rails_rows", .glo "law", .cls "Kind", .glo "Kind", .mkr "Kind", .cls "Kit", .glo "Kit", .mkr "Kit", .cls "Word", .glo "Word", .mkr "Word", .cls "Deed", .glo "Deed", .mkr "Deed", .free "abs", .free "all", .free "bool", .free "dict", .free "enumerate", .free "int", .free "isinstance", .free "len", .free "list", .free "max", .free "min", .free "range", .free "repr", .free "set", .free "sorted", .free "str", .free "sum", .free "tuple", .free "zip"]
def ckL (K : PySem.W.Frag) : List Bool := [ownB K "Deed",
  cB K "LETTERS" c_LETTERS,
  cB K "SIGNS" c_SIGNS,
  cB K "MOST_SIGNS" c_MOST_SIGNS,
  cB K "MOST_PIECES" c_MOST_PIECES,
  cB K "MOST_JOINTS" c_MOST_JOINTS,
  cB K "MOST_ROPES" c_MOST_ROPES,
  cB K "MOST_KINDS" c_MOST_KINDS,
  cB K "MOST_LONG" c_MOST_LONG,
  cB K "GRADES" c_GRADES,
  cB K "JOINT_PARTINGS" c_JOINT_PARTINGS,
  cB K "JOINT_CUTS" c_JOINT_CUTS,
  cB K "JOINT_STEPS" c_JOINT_STEPS,
  cB K "JOINT_JOINS" c_JOINT_JOINS,
  facB K ["Kind", "Kit", "Word", "Deed"] ["name", "pieces", "low", "high", "ropes", "dimension", "joints", "kinds", "grade", "names", "kit", "many", "rows"],
  isB 4 (cadF K) [] [3] (fun t => PySem.W.kitOne K t (.ref (He.ga K "Deed"))),
  isB 4 (cadF K) [] [0] (fun t => PySem.W.kitOne K t (.ref (He.ga K "Kind"))),
  isB 4 (cadF K) [] [1] (fun t => PySem.W.kitOne K t (.ref (He.ga K "Kit"))),
  isB 4 (cadF K) [] [2] (fun t => PySem.W.kitOne K t (.ref (He.ga K "Word"))),
  isB 4 (cadF K) ["bool"] [] (fun t => PySem.W.kitOne K t (.type "bool")),
  isB 4 (cadF K) ["int", "bool"] [] (fun t => PySem.W.kitOne K t (.type "int")),
  isB 4 (cadF K) ["list", "tuple"] [] (fun t => PySem.W.kitAny K t [.type "list", .type "tuple"]),
  isB 4 (cadF K) ["str"] [] (fun t => PySem.W.kitOne K t (.type "str"))]
def ckB (K : PySem.W.Frag) : Bool := (ckL K).all id
end L22
set_option maxHeartbeats 0
/-! the end, printed by gen_law.py -/
namespace L22
open PySem PySem.Spec PyProof.Rows L2 Iv
def nmL0 : List PySem.Str := ["_wall", "LETTERS", "SIGNS", "MOST_SIGNS", "is_integer", "is_between", "is_name", "is_listed", "ascends", "are_unlike", "are_names", "CellError", "BadNumber", "BadName", "NoName", "BadKind", "BadKit", "BadWord", "BadDeed", "Misfit"]
def nmL1 : List PySem.Str := ["blocks_of", "told_by", "is_over", "partings_of", "finest", "passing_in", "MOST_PIECES", "MOST_JOINTS", "MOST_ROPES", "is_rope", "are_ropes", "are_joints", "Kind", "numbers_in", "pairs_in", "GRADES", "MOST_KINDS", "are_kinds", "Kit", "need_kit"]
def nmL2 : List PySem.Str := ["need_grade", "JOINT_PARTINGS", "JOINT_CUTS", "JOINT_STEPS", "JOINT_JOINS", "joint_partings", "cuts_of", "steps_of", "joins_of", "fixed", "storey_on", "high_of", "MOST_LONG", "are_kinds_of", "Word", "need_word", "need_two_words", "is_row", "is_steady", "are_rows"]
def nmL3 : List PySem.Str := ["Deed", "lost_deed", "empty_rows", "exact_rows", "kind_rows", "made_deed", "after_rows", "put_after", "deed_of_names", "kind_deeds", "empty_deed", "kind_deed", "deed_of", "may_swap", "_law_pen", "_law_draw", "_law_pick", "_law_ce_partings", "_law_ce_told", "_law_ce_over"]
def nmL4 : List PySem.Str := ["_law_ce_join", "_law_ce_through", "_law_ce_rails", "_law_ce_made", "_law_ce_grade", "_law_ce_stack", "_law_ce_kind_rows", "_law_ce_empty", "_law_ce_after", "_law_ce_steps", "_law_ce_deed", "_law_rails_rows"]
def nmL : List PySem.Str := nmL0 ++ nmL1 ++ nmL2 ++ nmL3 ++ nmL4
abbrev R : PySem.W.OpenRow := PySem.W.OpenLaw.row PySem.Challenge.rw_insteadof_k22_whole_rails_and_strings_by
abbrev hk : PySem.W.Hook := hookX 4 faL fnL ckB
def ob (s : PySem.W.SharedT) : He.AlD × Bool := (He.obsDG 4 faL fnL (HandSHeadRun.getT s), ckB (He.frG (HandSHeadRun.getT s) (He.asD (HandSHeadRun.getT s) 4)))
theorem ob_eq (s : PySem.W.SharedT) : ob s = hk.obs s.abs := by
  have e : HandSHeadRun.getT s = s.abs.heap.get? := funext (HandSHeadRun.getT_eq s)
  show (_, _) = (_, _)
  rw [e]
theorem opair {σ α β : Type} {E : Option σ} {A : σ → α} {B : σ → β} {a : α} {b : β} (h1 : E.map A = some a) (h2 : E.map B = some b) : E.map (fun s => (A s, B s)) = some (a, b) := by
  cases E with
  | none => cases h1
  | some s =>
    simp only [Option.map_some, Option.some.injEq] at h1 h2 ⊢
    rw [h1, h2]
theorem omap3 {σ α β γ δ ε ζ : Type} {E : Option σ} {A : σ → α} {B : σ → β} {C : σ → Bool} {D : σ → δ} {F : σ → Bool} {G : σ → Bool} {a : α} {b : β} {d : δ} (h1 : E.map (fun s => (A s, B s)) = some (a, b)) (h2 : E.map (fun s => (C s, D s)) = some (true, d)) (h3 : E.map (fun s => (F s, G s)) = some (true, true)) : E.map (fun s => (A s, B s, ((F s && C s, D s), G s))) = some (a, b, ((true, d), true)) := by
  cases E with
  | none => cases h1
  | some s =>
    simp only [Option.map_some, Option.some.injEq, Prod.mk.injEq] at h1 h2 h3 ⊢
    rw [h1.1, h1.2, h2.1, h2.2, h3.1, h3.2]
    exact ⟨rfl, rfl, ⟨rfl, rfl⟩, rfl⟩
open HandSHeadRun PySem.W PySem.Calls in
noncomputable def En (w : World) (os : OsState) : Option SharedT := endF (stepQ (denQ tabQ) R.prog w) 6500 R.prog w os
open HandSHeadRun PySem.W PySem.Calls in
theorem rA (w : World) (os : OsState) : (En w os).map (fun s => (looksF R.prog (boot_heap w.params) s.abs, seenQ (PySem.W.view R.prog [106]) nmL (importedModules R.prog.main.body) (fun s => xlAt (PySem.W.view R.prog [106]) [] s && recOk R.toRowW.records s) s.abs)) = some (true, openGood (PySem.W.view R.prog [106]) nmL) := by kernel_rfl
theorem rB1 (w : World) (os : OsState) : (En w os).map (fun s => fnL.all (fun d => d.ok (He.frG (HandSHeadRun.getT s) (He.asD (HandSHeadRun.getT s) 4)))) = some true := by kernel_rfl
theorem rB2 (w : World) (os : OsState) : (En w os).map (fun s => fnL.map fun d => He.fnW (He.frG (HandSHeadRun.getT s) (He.asD (HandSHeadRun.getT s) 4)) d.at_) = some (fnL.map He.DefD.val) := by kernel_rfl
theorem rC1 (w : World) (os : OsState) : (En w os).map (fun s => faL.all fun f => f.ok (He.frG (HandSHeadRun.getT s) (He.asD (HandSHeadRun.getT s) 4))) = some true := by kernel_rfl
theorem rC2 (w : World) (os : OsState) : (En w os).map (fun s => ckB (He.frG (HandSHeadRun.getT s) (He.asD (HandSHeadRun.getT s) 4))) = some true := by kernel_rfl
theorem run (w : World) : HandSHeadRun.RunEq R (PySem.W.view R.prog [106]) hk ob 6500 nmL w := fun os => omap3 (γ := Unit) (ε := Unit) (ζ := Unit) (rA w os) (opair (rB1 w os) (rB2 w os)) (opair (rC1 w os) (rC2 w os))

end L22
set_option maxHeartbeats 4000000
/-! IvB: the language's core and its machine. -/
namespace Iv
open PySem PySem.Spec PyProof.Rows L2

/-- what a run gives -/
inductive Res (α : Type) where
  | ok (a : α) (h : IH)
  | bad
def Res.bind {α β : Type} (r : Res α) (f : α → IH → Res β) : Res β := match r with
  | .ok a h => f a h
  | .bad => .bad
def Res.ofO {α : Type} (o : Option α) (h : IH) : Res α := match o with
  | some a => .ok a h
  | none => .bad

/-! ### data -/
mutual
def pd : IV → Option PyData
  | .non => some .none
  | .bl b => some (.bool b)
  | .int i => some (.int i)
  | .str s => some (.str s)
  | .tup xs => (pds xs).map .tuple
  | .lst xs => (pds xs).map .list
  | .tpx xs => (pds xs).map .tuple
  | .dic _ _ => none
  | .dcn _ _ => none
  | .ins _ _ _ => none
  | .rdl _ => none
  | .rng _ _ => none
  | .ref _ => none
def pds : List IV → Option (List PyData)
  | [] => some []
  | x :: xs => match pd x, pds xs with
    | some d, some ds => some (d :: ds)
    | _, _ => none
end
def eqI (x y : IV) : Option Bool := match pd x, pd y with
  | some d, some e => if SeqAt.shaped d && SeqAt.shaped e then some (PyData.eqv d e) else none
  | _, _ => none
/-- an object that lives, as a tree, to be read -/
def viewO : IO → IV
  | .lst xs => .lst xs
  | .dic ks vs => .dic ks vs
  | .dcn ks vs => .dcn ks vs
  | .ins c ns vs => .ins c ns vs
def view (h : IH) : IV → IV
  | .ref n => match h[n]? with
    | some (some o) => viewO o
    | _ => .ref n
  | .tpx xs => .tup xs
  | v => v
/-- an object changes no more -/
def frz (v : IV) (h : IH) : Res IV := match v with
  | .ref n => match h[n]? with
    | some (some o) => .ok (viewO o) (h.set n none)
    | _ => .bad
  | v => .ok v h

inductive Bop where | add | sub | mul | fdiv | mod | pow
inductive Cop where | eq | ne | lt | le | gt | ge | isin | notin | is | isnot

def intsOf : List IV → Option (List Int)
  | [] => some []
  | .int i :: r => (intsOf r).map (i :: ·)
  | _ :: _ => none
def strsOf : List IV → Option (List Str)
  | [] => some []
  | .str i :: r => (strsOf r).map (i :: ·)
  | _ :: _ => none
def blsOf : List IV → Option (List Bool)
  | [] => some []
  | .bl i :: r => (blsOf r).map (i :: ·)
  | _ :: _ => none

def repI (k : Nat) (xs : List IV) : List IV := (List.replicate k xs).flatten
def binI (o : Bop) (x y : IV) : Option IV := match o, x, y with
  | .add, .int i, .int j => some (.int (i + j))
  | .sub, .int i, .int j => some (.int (i - j))
  | .mul, .int i, .int j => if (-(2 ^ 64) < i ∧ i < 2 ^ 64) ∨ (-(2 ^ 64) < j ∧ j < 2 ^ 64) then some (.int (i * j)) else none
  | .fdiv, .int i, .int j => if j ≠ 0 ∧ j.natAbs < 1073741824 then some (.int (i.fdiv j)) else none
  | .mod, .int i, .int j => if j ≠ 0 then some (.int (i.fmod j)) else none
  | .pow, .int i, .int j => if 0 ≤ j ∧ j ≤ 1000000 ∧ i.natAbs < 2 ^ 64 then some (.int (i ^ j.toNat)) else none
  | .add, .str a, .str b => if a.length + b.length ≤ sizeLine then some (.str (a ++ b)) else none
  | .add, .tup a, .tup b => if a.length + b.length ≤ sizeLine then some (.tup (a ++ b)) else none
  | .add, .lst a, .lst b => if a.length + b.length ≤ sizeLine then some (.lst (a ++ b)) else none
  | .mul, .lst a, .int k => if -(2 ^ 63) ≤ k ∧ k < 2 ^ 63 ∧ a.length * k.toNat ≤ sizeLine then some (.lst (repI k.toNat a)) else none
  | .mul, .tup a, .int k => if 1 < k ∧ k ≤ 1000 ∧ a ≠ [] ∧ a.length ≤ 1000 then some (.tup (repI k.toNat a)) else none
  | _, _, _ => none
/-- x among flat items -/
def flatI : IV → Bool
  | .non => true | .bl _ => true | .int _ => true | .str _ => true | _ => false
def eqF : IV → IV → Bool
  | .non, .non => true
  | .bl a, .bl b => a == b
  | .bl a, .int b => (if a then 1 else 0) == b
  | .int a, .bl b => a == (if b then 1 else 0)
  | .int a, .int b => a == b
  | .str a, .str b => a == b
  | _, _ => false
def inI (x : IV) (xs : List IV) : Option Bool :=
  if flatI x && xs.all flatI then some (xs.any fun y => eqF y x)
  else match pd x, pds xs with
    | some d, some ds => if SeqAt.shaped d && SeqAt.shaped (.list ds) then some (ds.any fun z => PyData.eqv z d) else none
    | _, _ => none
def isNonI : IV → Bool
  | .non => true
  | _ => false
def notO : Option Bool → Option Bool := Option.map (!·)
def cmpI (o : Cop) (x y : IV) : Option Bool := match o with
  | .eq => eqI x y
  | .ne => notO (eqI x y)
  | .lt => match x, y with
    | .int i, .int j => some (decide (i < j))
    | .str a, .str b => some (decide (a.cps.toList < b.cps.toList))
    | .tup a, .tup b => match intsOf a, intsOf b with
      | some p, some q => some (HT.lexLt p q)
      | _, _ => none
    | _, _ => none
  | .le => match x, y with
    | .int i, .int j => some (decide (i ≤ j))
    | _, _ => none
  | .gt => match x, y with
    | .int i, .int j => some (decide (j < i))
    | _, _ => none
  | .ge => match x, y with
    | .int i, .int j => some (decide (j ≤ i))
    | _, _ => none
  | .isin => match y with
    | .lst xs => inI x xs
    | .tup xs => if flatI x && xs.all flatI then inI x xs else none
    | .str b => match x with
      | .str a => some (!(Builtin.Str.occurrences b a 0 b.length 1).isEmpty)
      | _ => none
    | .dic ks _ => if (match x with | .int _ => true | .str _ => true | _ => false) then some (ks.any fun y => eqF y x) else none
    | _ => none
  | .notin => match y with
    | .lst xs => if flatI x && xs.all flatI then notO (inI x xs) else none
    | .tup xs => if flatI x && xs.all flatI then notO (inI x xs) else none
    | .str b => match x with
      | .str a => some (!(!(Builtin.Str.occurrences b a 0 b.length 1).isEmpty))
      | _ => none
    | .dic ks _ => if (match x with | .int _ => true | .str _ => true | _ => false) then some (!(ks.any fun y => eqF y x)) else none
    | _ => none
  | .is => match y with
    | .non => some (isNonI x)
    | _ => none
  | .isnot => match y with
    | .non => some (!isNonI x)
    | _ => none
def truI : IV → Option Bool
  | .non => some false
  | .bl b => some b
  | .int i => some (i != 0)
  | .str y => if y.length ≤ sizeLine then some ((y.length : Int) != 0) else none
  | .lst xs => some (!xs.isEmpty)
  | .tup xs => some (!xs.isEmpty)
  | _ => none
end Iv

/-! IvC: operators by values. -/
namespace Iv
open PySem PySem.Spec PyProof.Rows L2

/-- as RV, of a value that is read now: its own object may live -/
def RW (G : Gx) (lv : Addr → Prop) (φ : List Addr) (H : Hp) : IV → V → Prop
  | .lst xs, v => ∃ p vs, v = .ref p ∧ H p = some (.lst vs) ∧ RVs G lv φ H xs vs
  | .dic ks vs, v => ∃ p ks' vs', v = .ref p ∧ DicAt G H p ks' vs' ∧ RVs G lv φ H ks ks' ∧ RVs G lv φ H vs vs'
  | .dcn ks vs, v => ∃ p nks ks' vs', v = .ref p ∧ DicN G H p nks ks' vs' ∧ nkeys ks = some nks ∧ RVs G lv φ H ks ks' ∧ RVs G lv φ H vs vs'
  | .ins c ns vs, v => ∃ p dx fvs, v = .ref p ∧ H p = some (.ins (G.cad c) dx ((ns.map G.fnm).zip fvs)) ∧ InsOk G c ns vs.length ∧ RVs G lv φ H vs fvs
  | x, v => RV G lv φ H x v
section
variable {G : Gx} {lv lv' : Addr → Prop} {φ φ' : List Addr} {H H' : Hp}
theorem RV.rw : ∀ {x : IV} {v : V}, RV G lv φ H x v → RW G lv φ H x v
  | .lst xs, v, h => by
    simp only [RV] at h
    obtain ⟨p, vs, e, n, q, r⟩ := h
    exact ⟨p, vs, e, q, r⟩
  | .dic ks vs, v, h => by
    simp only [RV] at h
    obtain ⟨p, ks', vs', e, n, q, r⟩ := h
    exact ⟨p, ks', vs', e, q, r⟩
  | .ins c ns vs, v, h => by
    simp only [RV] at h
    obtain ⟨p, dx, fvs, e, n, q, r⟩ := h
    exact ⟨p, dx, fvs, e, q, r⟩
  | .non, v, h => h
  | .bl _, v, h => h
  | .int _, v, h => h
  | .str _, v, h => h
  | .tup _, v, h => h
  | .rdl _, v, h => h
  | .tpx _, v, h => h
  | .rng _ _, v, h => h
  | .dcn ks vs, v, h => by
    simp only [RV] at h
    obtain ⟨p, nks, ks', vs', e, n, q, r⟩ := h
    exact ⟨p, nks, ks', vs', e, q, r⟩
  | .ref _, v, h => h
theorem RW.view {O : Addr → Prop} {h : IH} (R : Rep G O h φ H) {x : IV} {v : V} (r : RV G (Lv O h φ) φ H x v) : RW G (Lv O h φ) φ H (view h x) v := by
  cases x with
  | ref n =>
    have r' := r
    simp only [RV] at r'
    obtain ⟨a, e, rfl⟩ := r'
    show RW G (Lv O h φ) φ H (match h[n]? with
      | some (some o) => viewO o
      | _ => .ref n) (.ref a)
    split
    · rename_i o q
      have z := R.obj n o a q e
      cases o with
      | lst xs =>
        obtain ⟨vs, e1, e2⟩ := z
        exact ⟨a, vs, rfl, e1, e2⟩
      | dic ks vs =>
        obtain ⟨ks', vs', e1, e2, e3⟩ := z
        exact ⟨a, ks', vs', rfl, e1, e2, e3⟩
      | dcn ks vs =>
        obtain ⟨nks, ks', vs', e1, e2, e3, e4⟩ := z
        exact ⟨a, nks, ks', vs', rfl, e1, e2, e3, e4⟩
      | ins c ns vs =>
        obtain ⟨dx, fvs, e1, e2, e3⟩ := z
        exact ⟨a, dx, fvs, rfl, e1, e2, e3⟩
    · exact r
  | tpx xs =>
    simp only [RV] at r
    obtain ⟨p, vs, rfl, q, r⟩ := r
    show RW G (Lv O h φ) φ H (.tup xs) (.ref p)
    simp only [RW, RV]
    exact ⟨p, vs, rfl, q.sq, r⟩
  | _ => exact r.rw

/-! ### data -/
mutual
theorem dp_of {K : PySem.W.Frag} (hK : G.K = K) : ∀ {x : IV} {v : V} {d : PyData}, RV G lv φ H x v → pd x = some d → Dp K H v d
  | .non, v, d, h, e => by
    simp only [RV] at h
    simp only [pd, Option.some.injEq] at e
    subst h e
    exact .non
  | .bl b, v, d, h, e => by
    simp only [RV] at h
    simp only [pd, Option.some.injEq] at e
    subst h e
    exact .bl b
  | .int b, v, d, h, e => by
    simp only [RV] at h
    simp only [pd, Option.some.injEq] at e
    subst h e
    exact .int b
  | .str b, v, d, h, e => by
    simp only [RV] at h
    simp only [pd, Option.some.injEq] at e
    subst h e
    exact .str b
  | .tup xs, v, d, h, e => by
    simp only [RV] at h
    obtain ⟨p, vs, rfl, q, r⟩ := h
    simp only [pd, Option.map_eq_some_iff] at e
    obtain ⟨ds, e1, rfl⟩ := e
    exact .tup (hK ▸ q) (dps_of hK r e1)
  | .lst xs, v, d, h, e => by
    simp only [RV] at h
    obtain ⟨p, vs, rfl, _, q, r⟩ := h
    simp only [pd, Option.map_eq_some_iff] at e
    obtain ⟨ds, e1, rfl⟩ := e
    exact .lst (SqL.of q) (dps_of hK r e1)
  | .tpx xs, v, d, h, e => by
    simp only [RV] at h
    obtain ⟨p, vs, rfl, q, r⟩ := h
    simp only [pd, Option.map_eq_some_iff] at e
    obtain ⟨ds, e1, rfl⟩ := e
    exact .tup q.sq (dps_of hK r e1)
  | .dic _ _, v, d, h, e => by simp only [pd] at e; cases e
  | .dcn _ _, v, d, h, e => by simp only [pd] at e; cases e
  | .ins _ _ _, v, d, h, e => by simp only [pd] at e; cases e
  | .rdl _, v, d, h, e => by simp only [pd] at e; cases e
  | .rng _ _, v, d, h, e => by simp only [pd] at e; cases e
  | .ref _, v, d, h, e => by simp only [pd] at e; cases e
theorem dps_of {K : PySem.W.Frag} (hK : G.K = K) : ∀ {xs : List IV} {vs : List V} {ds : List PyData}, RVs G lv φ H xs vs → pds xs = some ds → DpAll K H vs ds
  | [], vs, ds, h, e => by
    simp only [RVs] at h
    simp only [pds, Option.some.injEq] at e
    subst h e
    exact .nil
  | x :: xs, vs, ds, h, e => by
    simp only [RVs] at h
    obtain ⟨v, r, rfl, h1, h2⟩ := h
    simp only [pds] at e
    split at e
    · rename_i d ds' e1 e2
      cases e
      exact .cons (dp_of hK h1 e1) (dps_of hK h2 e2)
    · cases e
end
theorem dpw_of {K : PySem.W.Frag} (hK : G.K = K) {x : IV} {v : V} {d : PyData} (h : RW G lv φ H x v) (e : pd x = some d) : Dp K H v d := by
  cases x with
  | lst xs =>
    obtain ⟨p, vs, rfl, q, r⟩ := h
    simp only [pd, Option.map_eq_some_iff] at e
    obtain ⟨ds, e1, rfl⟩ := e
    exact .lst (SqL.of q) (dps_of hK r e1)
  | dic _ _ => simp only [pd] at e; cases e
  | dcn _ _ => simp only [pd] at e; cases e
  | tpx _ => exact dp_of hK h e
  | ins _ _ _ => simp only [pd] at e; cases e
  | non => exact dp_of hK h e
  | bl _ => exact dp_of hK h e
  | int _ => exact dp_of hK h e
  | str _ => exact dp_of hK h e
  | tup _ => exact dp_of hK h e
  | rdl _ => simp only [pd] at e; cases e
  | rng _ _ => simp only [pd] at e; cases e
  | ref _ => simp only [pd] at e; cases e
theorem fresh_lv (ok : ∀ a, lv a → Mut (H a)) {p : Addr} (n : H p = none) : ¬ lv p := fun l => by
  have m := ok p l
  rw [n] at m
  exact m
theorem ext_same (s : Same H H') : Ext lv φ H lv φ H' := ⟨fun a o e _ => s a o e, fun _ _ _ n => n, [], by simp⟩
theorem RVs.same (s : Same H H') (ok : ∀ a, lv a → Mut (H a)) {xs : List IV} {vs : List V} (r : RVs G lv φ H xs vs) : RVs G lv φ H' xs vs := RVs.mono (ext_same s) ok xs r
theorem RV.same (s : Same H H') (ok : ∀ a, lv a → Mut (H a)) {x : IV} {v : V} (r : RV G lv φ H x v) : RV G lv φ H' x v := RV.mono (ext_same s) ok x r
/-- a new tuple, a new list of what is known -/
theorem RV.newT (ok : ∀ a, lv a → Mut (H a)) {p : Addr} (n : H p = none) {xs : List IV} {vs : List V} (r : RVs G lv φ H xs vs) : RV G lv φ (upd H p (.tup vs)) (.tup xs) (.ref p) := by
  simp only [RV]
  exact ⟨p, vs, rfl, SqT.of upd_same, r.same (same_upd n) ok⟩
theorem RV.newL (ok : ∀ a, lv a → Mut (H a)) {p : Addr} (n : H p = none) {xs : List IV} {vs : List V} (r : RVs G lv φ H xs vs) : RV G lv φ (upd H p (.lst vs)) (.lst xs) (.ref p) := by
  simp only [RV]
  exact ⟨p, vs, rfl, fresh_lv ok n, upd_same, r.same (same_upd n) ok⟩
theorem RVs.rep {xs : List IV} {vs : List V} (r : RVs G lv φ H xs vs) : ∀ k : Nat, RVs G lv φ H (repI k xs) (List.replicate k vs).flatten
  | 0 => by simp [repI, RVs]
  | k + 1 => by
    unfold repI
    rw [List.replicate_succ, List.replicate_succ, List.flatten_cons, List.flatten_cons]
    exact RVs.append r (RVs.rep r k)
theorem ints_of : ∀ {xs : List IV} {vs : List V} {ns : List Int}, RVs G lv φ H xs vs → intsOf xs = some ns → vs = ns.map V.int
  | [], vs, ns, h, e => by
    simp only [RVs] at h
    simp only [intsOf, Option.some.injEq] at e
    subst h e
    rfl
  | x :: xs, vs, ns, h, e => by
    simp only [RVs] at h
    obtain ⟨v, r, rfl, h1, h2⟩ := h
    cases x with
    | int i =>
      simp only [intsOf, Option.map_eq_some_iff] at e
      obtain ⟨ms, e1, rfl⟩ := e
      simp only [RV] at h1
      rw [h1, ints_of h2 e1]
      rfl
    | _ => simp only [intsOf] at e; cases e
theorem strs_of : ∀ {xs : List IV} {vs : List V} {ns : List Str}, RVs G lv φ H xs vs → strsOf xs = some ns → vs = ns.map V.str
  | [], vs, ns, h, e => by
    simp only [RVs] at h
    simp only [strsOf, Option.some.injEq] at e
    subst h e
    rfl
  | x :: xs, vs, ns, h, e => by
    simp only [RVs] at h
    obtain ⟨v, r, rfl, h1, h2⟩ := h
    cases x with
    | str i =>
      simp only [strsOf, Option.map_eq_some_iff] at e
      obtain ⟨ms, e1, rfl⟩ := e
      simp only [RV] at h1
      rw [h1, strs_of h2 e1]
      rfl
    | _ => simp only [strsOf] at e; cases e
theorem bls_of : ∀ {xs : List IV} {vs : List V} {ns : List Bool}, RVs G lv φ H xs vs → blsOf xs = some ns → vs = ns.map V.bl
  | [], vs, ns, h, e => by
    simp only [RVs] at h
    simp only [blsOf, Option.some.injEq] at e
    subst h e
    rfl
  | x :: xs, vs, ns, h, e => by
    simp only [RVs] at h
    obtain ⟨v, r, rfl, h1, h2⟩ := h
    cases x with
    | bl i =>
      simp only [blsOf, Option.map_eq_some_iff] at e
      obtain ⟨ms, e1, rfl⟩ := e
      simp only [RV] at h1
      rw [h1, bls_of h2 e1]
      rfl
    | _ => simp only [blsOf] at e; cases e
theorem flat_of {x : IV} {v : V} (h : RW G lv φ H x v) (f : flatI x = true) : flatV v = true := by
  cases x with
  | non => simp only [RW, RV] at h; subst h; rfl
  | bl _ => simp only [RW, RV] at h; subst h; rfl
  | int _ => simp only [RW, RV] at h; subst h; rfl
  | str _ => simp only [RW, RV] at h; subst h; rfl
  | _ => cases f
theorem eqF_of {x y : IV} {v u : V} (h : RW G lv φ H x v) (g : RW G lv φ H y u) (f : flatI x = true) (k : flatI y = true) : eqV v u = eqF x y := by
  cases x with
  | non => simp only [RW, RV] at h; subst h; cases y with
    | non => simp only [RW, RV] at g; subst g; rfl
    | bl _ => simp only [RW, RV] at g; subst g; rfl
    | int _ => simp only [RW, RV] at g; subst g; rfl
    | str _ => simp only [RW, RV] at g; subst g; rfl
    | _ => cases k
  | bl _ => simp only [RW, RV] at h; subst h; cases y with
    | non => simp only [RW, RV] at g; subst g; rfl
    | bl _ => simp only [RW, RV] at g; subst g; rfl
    | int _ => simp only [RW, RV] at g; subst g; rfl
    | str _ => simp only [RW, RV] at g; subst g; rfl
    | _ => cases k
  | int _ => simp only [RW, RV] at h; subst h; cases y with
    | non => simp only [RW, RV] at g; subst g; rfl
    | bl _ => simp only [RW, RV] at g; subst g; rfl
    | int _ => simp only [RW, RV] at g; subst g; rfl
    | str _ => simp only [RW, RV] at g; subst g; rfl
    | _ => cases k
  | str _ => simp only [RW, RV] at h; subst h; cases y with
    | non => simp only [RW, RV] at g; subst g; rfl
    | bl _ => simp only [RW, RV] at g; subst g; rfl
    | int _ => simp only [RW, RV] at g; subst g; rfl
    | str _ => simp only [RW, RV] at g; subst g; rfl
    | _ => cases k
  | _ => cases f
theorem flats_of : ∀ {xs : List IV} {vs : List V}, RVs G lv φ H xs vs → xs.all flatI = true → vs.all flatV = true
  | [], vs, h, f => by
    simp only [RVs] at h
    subst h
    rfl
  | x :: xs, vs, h, f => by
    simp only [RVs] at h
    obtain ⟨v, r, rfl, h1, h2⟩ := h
    rw [List.all_cons, Bool.and_eq_true] at f ⊢
    exact ⟨flat_of h1.rw f.1, flats_of h2 f.2⟩
theorem anyF_of {y : IV} {u : V} (g : RW G lv φ H y u) (k : flatI y = true) : ∀ {xs : List IV} {vs : List V}, RVs G lv φ H xs vs → xs.all flatI = true → inV u vs = xs.any fun z => eqF z y
  | [], vs, h, f => by
    simp only [RVs] at h
    subst h
    rfl
  | x :: xs, vs, h, f => by
    simp only [RVs] at h
    obtain ⟨v, r, rfl, h1, h2⟩ := h
    rw [List.all_cons, Bool.and_eq_true] at f
    show (eqV v u || inV u r) = (eqF x y || xs.any fun z => eqF z y)
    rw [eqF_of h1.rw g f.1 k, anyF_of g k h2 f.2]
end
end Iv

/-! IvD: the operators' rules. -/
namespace Iv
open PySem PySem.Spec PyProof.Rows L2

def bopOf : Bop → Operator
  | .add => .Add | .sub => .Sub | .mul => .Mult | .fdiv => .FloorDiv | .mod => .Mod | .pow => .Pow
def copOf : Cop → CmpOp
  | .eq => .Eq | .ne => .NotEq | .lt => .Lt | .le => .LtE | .gt => .Gt | .ge => .GtE | .isin => .In | .notin => .NotIn | .is => .Is | .isnot => .IsNot
/-- what is wanted of a value that an operation of values gives -/
def Wnt (G : Gx) (lv : Addr → Prop) (φ : List Addr) (H : Hp) (c : IV) (Q : VK) : Prop := (∀ a, lv a → Mut (H a)) ∧ ∀ v H', Same H H' → RV G lv φ H' c v → Q v H'
def rB (G : Gx) (o : Bop) : R2 := fun x y H Q => ∃ lv φ a b c, RW G lv φ H a x ∧ RW G lv φ H b y ∧ binI o a b = some c ∧ Wnt G lv φ H c Q
def rC (G : Gx) (o : Cop) : R2 := fun x y H Q => ∃ lv φ a b c, RW G lv φ H a x ∧ RW G lv φ H b y ∧ cmpI o a b = some c ∧ Q (.bl c) H
section
variable {G : Gx} {X : Cx}
/-- () + t is t -/
def rCatE (K : PySem.W.Frag) : R2 := fun x y H Q => ∃ a b ys, x = .ref a ∧ y = .ref b ∧ SqT K H a [] ∧ SqT K H b ys ∧ Q (.ref b) H
theorem op_catE {X : Cx} : OpR X (binaryOp .Add) (rCatE X.K) := by
  intro pins s σ H x y v u Q I rx ry ⟨a, b, ys, ex, ey, ha, hb, q⟩
  subst ex ey
  cases rx
  cases ry
  obtain ⟨its, r1, p1, _⟩ := I.tuple ha
  obtain ⟨its2, r2, p2, _⟩ := I.tuple hb
  cases r1
  obtain ⟨⟨cls, dd, data, sl⟩, ho, hc, n, hd⟩ := id p1
  obtain ⟨⟨cls2, dd2, data2, sl2⟩, ho2, hc2, n2, hd2⟩ := id p2
  simp only at hc hd hc2 hd2
  subst hc hd hc2 hd2
  exact concat_meets ⟨_, ho, rfl⟩ ⟨_, ho2, rfl⟩ noFill_tuple_add seq_tuple_add PySem.F.slot_tuple_add PySem.F.entry_tuple_add (PySem.F.args_tuple_add_2 _ _)
    (tuple_addW0 a b _ its2.toArray n n2 dd dd2 sl sl2 (by simp)) ⟨ho, ho2, .ref b, H, I, rfl, q⟩
theorem bin_ok (hK : G.K = X.K) (o : Bop) : OpR X (binaryOp (bopOf o)) (rB G o) := by
  intro pins s σ H x y v u Q I rx ry ⟨lv, φ, a, b, c, ha, hb, e, ok, q⟩
  have qi : ∀ i : Int, c = .int i → Q (.int i) H := fun i z => by
    subst z
    exact q _ _ (Same.refl H) (by simp only [RV])
  cases o <;> cases a <;> cases b <;> simp only [binI] at e
  all_goals first | (exfalso; injection e; done) | skip
  all_goals first
    | (split at e <;> first | (exfalso; injection e; done) | skip)
    | skip
  all_goals first | (injection e with e) | skip
  all_goals (try simp only [RW, RV] at ha hb)
  case add.int.int i j => exact op_add pins s σ H x y v u Q I rx ry ⟨i, j, ha, hb, qi _ e.symm⟩
  case add.str.str i j h => exact op_add_str pins s σ H x y v u Q I rx ry ⟨i, j, ha, hb, h, by subst e; exact q _ _ (Same.refl H) (by simp only [RV])⟩
  case add.tup.tup i j h =>
    obtain ⟨p, vs, rfl, q1, r1⟩ := ha
    obtain ⟨p', vs', rfl, q2, r2⟩ := hb
    subst e
    by_cases n1 : vs = []
    · subst n1
      have z2 : i = [] := by
        have l := r1.length
        exact List.length_eq_zero_iff.mp l.symm
      subst z2
      refine op_catE pins s σ H _ _ v u Q I rx ry ⟨p, p', vs', rfl, rfl, hK ▸ q1, hK ▸ q2, q _ _ (Same.refl H) ?_⟩
      simp only [RV, List.nil_append]
      exact ⟨p', vs', rfl, q2, r2⟩
    refine op_catT pins s σ H _ _ v u Q I rx ry ⟨p, p', vs, vs', rfl, rfl, hK ▸ q1, hK ▸ q2, n1, by rw [r1.length, r2.length]; exact h, fun z => ?_, fun z p n => ?_⟩
    · refine q _ _ (Same.refl H) ?_
      have l := r2.length
      rw [z] at l
      have z2 : j = [] := List.length_eq_zero_iff.mp l.symm
      rw [z2, List.append_nil]
      simp only [RV]
      exact ⟨p, vs, rfl, q1, r1⟩
    · exact q _ _ (same_upd n) (RV.newT ok n (RVs.append r1 r2))
  case add.lst.lst i j h =>
    obtain ⟨p, vs, rfl, q1, r1⟩ := ha
    obtain ⟨p', vs', rfl, q2, r2⟩ := hb
    subst e
    exact op_cat pins s σ H _ _ v u Q I rx ry ⟨p, p', vs, vs', rfl, rfl, q1, q2, by rw [r1.length, r2.length]; exact h, fun p n => q _ _ (same_upd n) (RV.newL ok n (RVs.append r1 r2))⟩
  case sub.int.int i j => exact op_sub pins s σ H x y v u Q I rx ry ⟨i, j, ha, hb, qi _ e.symm⟩
  case mul.int.int i j h => exact op_mul pins s σ H x y v u Q I rx ry ⟨i, j, ha, hb, h, qi _ e.symm⟩
  case mul.tup.int i j h =>
    obtain ⟨p, vs, rfl, q1, r1⟩ := ha
    subst e
    have n1 : vs ≠ [] := fun z => h.2.2.1 (by
      have l := r1.length
      rw [z] at l
      exact List.length_eq_zero_iff.mp l.symm)
    exact op_repT pins s σ H _ _ v u Q I rx ry ⟨p, j, vs, rfl, hb, hK ▸ q1, n1, by omega, h.2.1, by rw [r1.length]; exact h.2.2.2, fun p n => q _ _ (same_upd n) (RV.newT ok n (RVs.rep r1 _))⟩
  case mul.lst.int i j h =>
    obtain ⟨p, vs, rfl, q1, r1⟩ := ha
    subst e
    exact op_rep pins s σ H _ _ v u Q I rx ry ⟨p, j, vs, rfl, hb, q1, h.1, h.2.1, by rw [r1.length]; exact h.2.2, fun p n => q _ _ (same_upd n) (RV.newL ok n (RVs.rep r1 _))⟩
  case fdiv.int.int i j h => exact op_fdivN pins s σ H x y v u Q I rx ry ⟨i, j, ha, hb, h, qi _ e.symm⟩
  case mod.int.int i j h => exact op_modN pins s σ H x y v u Q I rx ry ⟨i, j, ha, hb, h, qi _ e.symm⟩
  case pow.int.int i j h => exact op_pow pins s σ H x y v u Q I rx ry ⟨i, j, ha, hb, h, qi _ e.symm⟩

theorem isN_of {lv : Addr → Prop} {φ : List Addr} {H : Hp} {a : IV} {v : V} (h : RW G lv φ H a v) : decide (v = .non) = isNonI a := by
  cases a with
  | non => simp only [RW, RV] at h; subst h; rfl
  | bl _ => simp only [RW, RV] at h; subst h; rfl
  | int _ => simp only [RW, RV] at h; subst h; rfl
  | str _ => simp only [RW, RV] at h; subst h; rfl
  | tup _ => simp only [RW, RV] at h; obtain ⟨_, _, rfl, _⟩ := h; rfl
  | lst _ => obtain ⟨_, _, rfl, _⟩ := h; rfl
  | dic _ _ => obtain ⟨_, _, _, rfl, _⟩ := h; rfl
  | ins _ _ _ => obtain ⟨_, _, _, rfl, _⟩ := h; rfl
  | rdl _ => simp only [RW, RV] at h; obtain ⟨_, _, rfl, _⟩ := h; rfl
  | tpx _ => simp only [RW, RV] at h; obtain ⟨_, _, rfl, _⟩ := h; rfl
  | dcn _ _ => obtain ⟨_, _, _, _, rfl, _⟩ := h; rfl
  | rng _ _ => simp only [RW, RV] at h; obtain ⟨_, rfl, _⟩ := h; rfl
  | ref _ => simp only [RW, RV] at h; obtain ⟨_, _, rfl⟩ := h; rfl
theorem eq_ok (hK : G.K = X.K) (hu : X.A.units + 65 < cLine) : OpR X (compareOp .Eq) (rC G .eq) := by
  intro pins s σ H x y v u Q I rx ry ⟨lv, φ, a, b, c, ha, hb, e, q⟩
  have e' : eqI a b = some c := e
  unfold eqI at e'
  split at e'
  · rename_i d1 d2 e1 e2
    split at e'
    · rename_i sh
      injection e' with e'
      subst e'
      rw [Bool.and_eq_true] at sh
      exact op_eqD (by omega) pins s σ H x y v u Q I rx ry ⟨d1, d2, dpw_of hK ha e1, dpw_of hK hb e2, sh.1, sh.2, q⟩
    · cases e'
  · cases e'
theorem ne_ok (hK : G.K = X.K) (hu : X.A.units + 65 < cLine) : OpR X (compareOp .NotEq) (rC G .ne) := by
  intro pins s σ H x y v u Q I rx ry ⟨lv, φ, a, b, c, ha, hb, e, q⟩
  have e' : notO (eqI a b) = some c := e
  unfold eqI at e'
  split at e'
  · rename_i d1 d2 e1 e2
    split at e'
    · rename_i sh
      simp only [notO, Option.map_some, Option.some.injEq] at e'
      subst e'
      rw [Bool.and_eq_true] at sh
      exact op_neD (by omega) pins s σ H x y v u Q I rx ry ⟨d1, d2, dpw_of hK ha e1, dpw_of hK hb e2, sh.1, sh.2, q⟩
    · cases e'
  · cases e'
theorem lt_ok (hK : G.K = X.K) (hu : X.A.units + 65 < cLine) : OpR X (compareOp .Lt) (rC G .lt) := by
  intro pins s σ H x y v u Q I rx ry ⟨lv, φ, a, b, c, ha, hb, e, q⟩
  cases a <;> cases b <;> simp only [cmpI] at e
  all_goals first | (exfalso; injection e; done) | skip
  all_goals (try simp only [RW, RV] at ha hb)
  case int.int i j =>
    injection e with e
    subst e
    exact op_lt pins s σ H x y v u Q I rx ry ⟨i, j, ha, hb, q⟩
  case str.str i j =>
    injection e with e
    subst e
    exact op_lt_str pins s σ H x y v u Q I rx ry ⟨i, j, ha, hb, q⟩
  case tup.tup i j =>
    obtain ⟨p, vs, rfl, q1, r1⟩ := ha
    obtain ⟨p', vs', rfl, q2, r2⟩ := hb
    split at e
    · rename_i m1 m2 e1 e2
      injection e with e
      subst e
      exact op_ltT (by omega) pins s σ H _ _ v u Q I rx ry ⟨p, p', m1, m2, rfl, rfl, by rw [← ints_of r1 e1]; exact hK ▸ q1, by rw [← ints_of r2 e2]; exact hK ▸ q2, q⟩
    · cases e
theorem le_ok : OpR X (compareOp .LtE) (rC G .le) := by
  intro pins s σ H x y v u Q I rx ry ⟨lv, φ, a, b, c, ha, hb, e, q⟩
  cases a <;> cases b <;> simp only [cmpI] at e
  all_goals first | (exfalso; injection e; done) | skip
  all_goals (try simp only [RW, RV] at ha hb)
  case int.int i j =>
    injection e with e
    subst e
    exact op_le pins s σ H x y v u Q I rx ry ⟨i, j, ha, hb, q⟩
theorem gt_ok : OpR X (compareOp .Gt) (rC G .gt) := by
  intro pins s σ H x y v u Q I rx ry ⟨lv, φ, a, b, c, ha, hb, e, q⟩
  cases a <;> cases b <;> simp only [cmpI] at e
  all_goals first | (exfalso; injection e; done) | skip
  all_goals (try simp only [RW, RV] at ha hb)
  case int.int i j =>
    injection e with e
    subst e
    exact op_gt pins s σ H x y v u Q I rx ry ⟨i, j, ha, hb, q⟩
theorem ge_ok : OpR X (compareOp .GtE) (rC G .ge) := by
  intro pins s σ H x y v u Q I rx ry ⟨lv, φ, a, b, c, ha, hb, e, q⟩
  cases a <;> cases b <;> simp only [cmpI] at e
  all_goals first | (exfalso; injection e; done) | skip
  all_goals (try simp only [RW, RV] at ha hb)
  case int.int i j =>
    injection e with e
    subst e
    exact op_ge pins s σ H x y v u Q I rx ry ⟨i, j, ha, hb, q⟩
theorem is_ok : OpR X (compareOp .Is) (rC G .is) := by
  intro pins s σ H x y v u Q I rx ry ⟨lv, φ, a, b, c, ha, hb, e, q⟩
  cases b <;> simp only [cmpI] at e
  all_goals first | (exfalso; injection e; done) | skip
  simp only [RW, RV] at hb
  refine op_isN pins s σ H x y v u Q I rx ry ⟨hb, ?_⟩
  rw [isN_of ha]
  rw [Option.some.inj e]
  exact q
theorem isnot_ok : OpR X (compareOp .IsNot) (rC G .isnot) := by
  intro pins s σ H x y v u Q I rx ry ⟨lv, φ, a, b, c, ha, hb, e, q⟩
  cases b <;> simp only [cmpI] at e
  all_goals first | (exfalso; injection e; done) | skip
  simp only [RW, RV] at hb
  refine op_notN pins s σ H x y v u Q I rx ry ⟨hb, ?_⟩
  rw [isN_of ha]
  rw [Option.some.inj e]
  exact q
theorem in_seq_ok (hK : G.K = X.K) (hu : X.A.units + 65 < cLine) {lv : Addr → Prop} {φ : List Addr} {H : Hp} {a : IV} {xs : List IV} {c : Bool} {x : V} {p : Addr} {vs : List V} {v u : Value} {Q : VK} {pins : List (Addr × Obj)} {s : Shared} {σ : L2.St} (I : Inv X pins σ H s) (rx : RelV x v) (ry : RelV (.ref p) u)
    (ha : RW G lv φ H a x) (hp : SqL X.K H p vs ∨ (SqT X.K H p vs ∧ (flatI a && xs.all flatI) = true)) (r : RVs G lv φ H xs vs) (e : inI a xs = some c) (q : Q (.bl c) H) : wpAny (model X.prog X.w) X.A (compareOp .In v u) (EP X pins σ Q) X.xe s := by
  unfold inI at e
  split at e
  · rename_i f
    rw [Bool.and_eq_true] at f
    injection e with e
    subst e
    refine op_in_seq pins s σ H x (.ref p) v u Q I rx ry ⟨p, vs, rfl, hp.elim .inl fun z => .inr z.1, flat_of ha f.1, flats_of r f.2, ?_⟩
    rw [if_neg (by decide), anyF_of ha f.1 r f.2]
    exact q
  · rename_i f
    split at e
    · rename_i d ds e1 e2
      split at e
      · rename_i sh
        rw [Bool.and_eq_true] at sh
        injection e with e
        subst e
        rcases hp with hp | hp
        · exact op_inD hu pins s σ H x (.ref p) v u Q I rx ry ⟨d, ds, dpw_of hK ha e1, .lst hp (dps_of hK r e2), sh.1, sh.2, q⟩
        · exact absurd hp.2 f
      · cases e
    · cases e
theorem notO_some {o : Option Bool} {c : Bool} (h : notO o = some c) : o = some (!c) := by
  cases o with
  | none => cases h
  | some b =>
    simp only [notO, Option.map_some, Option.some.injEq] at h
    subst h
    simp
theorem notin_seq_ok {lv : Addr → Prop} {φ : List Addr} {H : Hp} {a : IV} {xs : List IV} {c : Bool} {x : V} {p : Addr} {vs : List V} {v u : Value} {Q : VK} {pins : List (Addr × Obj)} {s : Shared} {σ : L2.St} (I : Inv X pins σ H s) (rx : RelV x v) (ry : RelV (.ref p) u)
    (ha : RW G lv φ H a x) (hp : SqL X.K H p vs ∨ SqT X.K H p vs) (r : RVs G lv φ H xs vs) (f : (flatI a && xs.all flatI) = true) (e : notO (inI a xs) = some c) (q : Q (.bl c) H) : wpAny (model X.prog X.w) X.A (compareOp .NotIn v u) (EP X pins σ Q) X.xe s := by
  have e' := notO_some e
  unfold inI at e'
  rw [if_pos f] at e'
  rw [Bool.and_eq_true] at f
  injection e' with e'
  refine op_notIn_seq pins s σ H x (.ref p) v u Q I rx ry ⟨p, vs, rfl, hp, flat_of ha f.1, flats_of r f.2, ?_⟩
  rw [if_pos rfl, anyF_of ha f.1 r f.2, e', Bool.not_not]
  exact q
end
end Iv

/-! IvE: readings by machines. -/
namespace Iv
open PySem PySem.Spec PyProof.Rows L2

theorem PEimp {X : Cx} {e : Expr} {t t' : TE} (h : PE X e t) (f : ∀ σ H Q, t' σ H Q → t σ H Q) : PE X e t' := ⟨fun pins s σ H Q I q => h.run pins s σ H Q I (f σ H Q q)⟩
theorem PTimp {X : Cx} {e : Expr} {t t' : TT} (h : PT X e t) (f : ∀ σ H Q, t' σ H Q → t σ H Q) : PT X e t' := ⟨fun pins s σ H Q I q => h.run pins s σ H Q I (f σ H Q q)⟩
theorem PWimp {X : Cx} {e : Expr} {t t' : TT} (h : PW X e t) (f : ∀ σ H Q, t' σ H Q → t σ H Q) : PW X e t' := ⟨fun wh pins s σ H Q I q => h.run wh pins s σ H Q I (f σ H Q q)⟩
theorem PAimp {X : Cx} {e : List Expr} {t t' : TA} (h : PA X e t) (f : ∀ σ H Q, t' σ H Q → t σ H Q) : PA X e t' := ⟨fun pos pins s σ H Q I q => h.run pos pins s σ H Q I (f σ H Q q)⟩
theorem PSimp {X : Cx} {e : Stmt} {t t' : TS} (h : PS X e t) (f : ∀ D σ H, t' D σ H → t D σ H) : PS X e t' := ⟨fun pins s σ H D I q => h.run pins s σ H D I (f D σ H q)⟩
theorem PSsimp {X : Cx} {e : List Stmt} {t t' : TS} (h : PSs X e t) (f : ∀ D σ H, t' D σ H → t D σ H) : PSs X e t' := ⟨fun pins s σ H D I q => h.run pins s σ H D I (f D σ H q)⟩

abbrev Env := List (Option IV)
def EnvR (G : Gx) (lv : Addr → Prop) (φ : List Addr) (H : Hp) (env : Env) (σ : L2.St) : Prop := env.length = σ.length ∧ ∀ (i : Nat) (x : IV), env[i]? = some (some x) → ∃ v, σ[i]? = some (some v) ∧ RV G lv φ H x v
/-- how what a run gives stands for what is given -/
abbrev Rel (α β : Type) := (Addr → Prop) → List Addr → Hp → α → β → Prop
def relV (G : Gx) : Rel IV V := fun lv φ H x v => RV G lv φ H x v
def relA (G : Gx) : Rel (List IV) (List V) := fun lv φ H x v => RVs G lv φ H x v
def relB : Rel Bool Bool := fun _ _ _ x v => v = x
def Post {α β : Type} (rel : Rel α β) (G : Gx) (O : Addr → Prop) (h : IH) (φ : List Addr) (H : Hp) (r : Res α) (Q : β → Hp → Prop) : Prop := match r with
  | .ok a h' => ∀ φ' H' v, Go G O h φ H h' φ' H' → rel (Lv O h' φ') φ' H' a v → Q v H'
  | .bad => False
section
variable {G : Gx} {O : Addr → Prop} {h h1 : IH} {φ φ1 : List Addr} {H H1 : Hp} {α β γ δ : Type} {rel : Rel α β} {rel2 : Rel γ δ}
theorem Post.mono {r : Res α} {Q Q' : β → Hp → Prop} (p : Post rel G O h φ H r Q) (q : ∀ v H, Q v H → Q' v H) : Post rel G O h φ H r Q' := by
  cases r with
  | ok a h' => exact fun φ' H' v g r => q _ _ (p φ' H' v g r)
  | bad => exact p.elim
theorem Post.go {r : Res α} {Q : β → Hp → Prop} (g : Go G O h φ H h1 φ1 H1) (p : Post rel G O h φ H r Q) : Post rel G O h1 φ1 H1 r Q := by
  cases r with
  | ok a h' => exact fun φ' H' v g' r => p φ' H' v (g.trans g') r
  | bad => exact p.elim
/-- first one, then the other -/
theorem Post.bind {r : Res α} {f : α → IH → Res γ} {Q : δ → Hp → Prop} (p : Post rel2 G O h φ H (r.bind f) Q) :
    Post rel G O h φ H r (fun v H1 => ∃ a h1 φ1, r = .ok a h1 ∧ Go G O h φ H h1 φ1 H1 ∧ rel (Lv O h1 φ1) φ1 H1 a v ∧ Post rel2 G O h1 φ1 H1 (f a h1) Q) := by
  cases r with
  | ok a h' => exact fun φ' H' v g r => ⟨a, h', φ', rfl, g, r, Post.go g p⟩
  | bad => exact p.elim
theorem Post.ok {r : Res α} {Q : β → Hp → Prop} (R : Rep G O h φ H) {a : α} {v : β} (p : Post rel G O h φ H (.ok a h) Q) (r : rel (Lv O h φ) φ H a v) : Q v H := p φ H v (Go.refl R) r
theorem EnvR.go {env : Env} {σ : L2.St} (R : Rep G O h φ H) (g : Go G O h φ H h1 φ1 H1) (e : EnvR G (Lv O h φ) φ H env σ) : EnvR G (Lv O h1 φ1) φ1 H1 env σ :=
  ⟨e.1, fun i x q => let ⟨v, e1, e2⟩ := e.2 i x q; ⟨v, e1, RV.mono g.ext R.ok x e2⟩⟩
theorem relV.go {x : IV} {v : V} (R : Rep G O h φ H) (g : Go G O h φ H h1 φ1 H1) (r : relV G (Lv O h φ) φ H x v) : relV G (Lv O h1 φ1) φ1 H1 x v := RV.mono g.ext R.ok x r
theorem relA.go {x : List IV} {v : List V} (R : Rep G O h φ H) (g : Go G O h φ H h1 φ1 H1) (r : relA G (Lv O h φ) φ H x v) : relA G (Lv O h1 φ1) φ1 H1 x v := RVs.mono g.ext R.ok x r
end
/-- a machine's readings -/
abbrev Mv := Env → IH → Res IV
abbrev Mb := Env → IH → Res Bool
abbrev Ma := Env → IH → Res (List IV)
def rE (G : Gx) (f : Mv) : TE := fun σ H Q => ∃ O h φ env, Rep G O h φ H ∧ EnvR G (Lv O h φ) φ H env σ ∧ Post (relV G) G O h φ H (f env h) Q
def rT (G : Gx) (f : Mb) : TT := fun σ H Q => ∃ O h φ env, Rep G O h φ H ∧ EnvR G (Lv O h φ) φ H env σ ∧ Post relB G O h φ H (f env h) Q
def rA (G : Gx) (f : Ma) : TA := fun σ H Q => ∃ O h φ env, Rep G O h φ H ∧ EnvR G (Lv O h φ) φ H env σ ∧ Post (relA G) G O h φ H (f env h) Q

section
variable {X : Cx} {G : Gx} {a b c : Expr} {fa fb fc : Mv} {pos : Pos}
/-- what is given is a value that stands now, the heap as it was but for new objects -/
theorem wnt_of {O : Addr → Prop} {h : IH} {φ : List Addr} {H : Hp} {c : IV} {Q : VK} (R : Rep G O h φ H) (p : Post (relV G) G O h φ H (.ok c h) Q) : Wnt G (Lv O h φ) φ H c Q :=
  ⟨R.ok, fun v H' s r => p φ H' v (Go.same R s) r⟩

def mVar (i : Nat) : Mv := fun env h => match env[i]? with
  | some (some x) => .ok x h
  | _ => .bad
theorem s_var {i : Nat} {x : Str} (hN : X.N[i]? = some x) (hv : Vis X.env.scope x) (hd : (x == ("__debug__" : Str)) = false) (hcd : (x == ("__classdict__" : Str)) = false) : PE X (.Name x pos) (rE G (mVar i)) := by
  refine PEimp (pe_var hN hv hd hcd) fun σ H Q ⟨O, h, φ, env, R, E, P⟩ => ?_
  unfold mVar at P
  split at P
  · rename_i x' e
    obtain ⟨v, e1, e2⟩ := E.2 i x' e
    exact ⟨v, e1, P φ H v (Go.refl R) e2⟩
  · exact P.elim
def mC (x : IV) : Mv := fun _ h => .ok x h
theorem s_int {i : Int} {j : Nat} : PE X (.Constant (.int i) j pos) (rE G (mC (.int i))) :=
  PEimp pe_int fun σ H Q ⟨O, h, φ, env, R, E, P⟩ => P φ H _ (Go.refl R) (by simp only [relV, RV])
theorem s_bl {i : Bool} {j : Nat} : PE X (.Constant (.bool i) j pos) (rE G (mC (.bl i))) :=
  PEimp pe_bl fun σ H Q ⟨O, h, φ, env, R, E, P⟩ => P φ H _ (Go.refl R) (by simp only [relV, RV])
theorem s_str {i : Str} {j : Nat} : PE X (.Constant (.str i) j pos) (rE G (mC (.str i))) :=
  PEimp pe_str fun σ H Q ⟨O, h, φ, env, R, E, P⟩ => P φ H _ (Go.refl R) (by simp only [relV, RV])
theorem s_non {j : Nat} : PE X (.Constant .none j pos) (rE G (mC .non)) :=
  PEimp pe_non fun σ H Q ⟨O, h, φ, env, R, E, P⟩ => P φ H _ (Go.refl R) (by simp only [relV, RV])
/-- a constant of the module -/
theorem s_glob {x : Str} {v : V} {u : Value} {k : IV} (hg : Gl X x) (hm : X.mg x = some u) (r : RelV v u) (hk : ∀ lv φ H, RV G lv φ H k v) (hd : (x == ("__debug__" : Str)) = false) : PE X (.Name x pos) (rE G (mC k)) :=
  PEimp (pe_glob hg hm r hd) fun σ H Q ⟨O, h, φ, env, R, E, P⟩ => P φ H _ (Go.refl R) (hk _ _ _)

def mBin (o : Bop) (fa fb : Mv) : Mv := fun env h => (fa env h).bind fun x h1 => (fb env h1).bind fun y h2 => .ofO (binI o (view h2 x) (view h2 y)) h2
theorem s_bin (hK : G.K = X.K) (o : Bop) (ha : PE X a (rE G fa)) (hb : PE X b (rE G fb)) : PE X (.BinOp a (bopOf o) b pos) (rE G (mBin o fa fb)) := by
  refine PEimp (pe_op (bin_ok hK o) ha hb) fun σ H Q ⟨O, h, φ, env, R, E, P⟩ => ?_
  refine ⟨O, h, φ, env, R, E, (P.bind (rel := relV G)).mono fun v H1 ⟨x, h1, φ1, _, g1, r1, P1⟩ => ?_⟩
  refine ⟨O, h1, φ1, env, g1.rep, E.go R g1, (P1.bind (rel := relV G)).mono fun u H2 ⟨y, h2, φ2, _, g2, r2, P2⟩ => ?_⟩
  cases e : binI o (view h2 x) (view h2 y) with
  | none =>
    rw [e] at P2
    exact P2.elim
  | some c =>
    rw [e] at P2
    exact ⟨Lv O h2 φ2, φ2, _, _, c, RW.view g2.rep (relV.go g1.rep g2 r1), RW.view g2.rep r2, e, wnt_of g2.rep P2⟩
def mCmpB (o : Cop) (fa fb : Mv) : Mb := fun env h => (fa env h).bind fun x h1 => (fb env h1).bind fun y h2 => .ofO (cmpI o (view h2 x) (view h2 y)) h2
def mB (f : Mb) : Mv := fun env h => (f env h).bind fun b h1 => .ok (.bl b) h1
theorem cmp_rd (o : Cop) {σ : L2.St} {H : Hp} {Q : VK} {O : Addr → Prop} {h : IH} {φ : List Addr} {env : Env} (R : Rep G O h φ H) (E : EnvR G (Lv O h φ) φ H env σ) (P : Post relB G O h φ H (mCmpB o fa fb env h) fun b H' => Q (.bl b) H') :
    tOp (rC G o) (rE G fa) (rE G fb) σ H Q := by
  refine ⟨O, h, φ, env, R, E, (P.bind (rel := relV G)).mono fun v H1 ⟨x, h1, φ1, _, g1, r1, P1⟩ => ?_⟩
  refine ⟨O, h1, φ1, env, g1.rep, E.go R g1, (P1.bind (rel := relV G)).mono fun u H2 ⟨y, h2, φ2, _, g2, r2, P2⟩ => ?_⟩
  cases e : cmpI o (view h2 x) (view h2 y) with
  | none =>
    rw [e] at P2
    exact P2.elim
  | some c =>
    rw [e] at P2
    exact ⟨Lv O h2 φ2, φ2, _, _, c, RW.view g2.rep (relV.go g1.rep g2 r1), RW.view g2.rep r2, e, P2 φ2 H2 c (Go.refl g2.rep) rfl⟩
theorem mB_post {O : Addr → Prop} {h : IH} {φ : List Addr} {H : Hp} {env : Env} {f : Mb} {Q : VK} (P : Post (relV G) G O h φ H (mB f env h) Q) : Post relB G O h φ H (f env h) fun b H' => Q (.bl b) H' := by
  have P' : Post (relV G) G O h φ H ((f env h).bind fun b h1 => .ok (.bl b) h1) Q := P
  refine (P'.bind (rel := relB)).mono fun v H1 ⟨x, h1, φ1, _, g1, r1, P1⟩ => ?_
  have r1' : v = x := r1
  subst r1'
  exact P1 φ1 H1 _ (Go.refl g1.rep) (by simp only [relV, RV])
/-- the comparisons' rules -/
structure CmpOk (G : Gx) (X : Cx) : Prop where
  ok : ∀ o, OpR X (compareOp (copOf o)) (rC G o)
theorem s_cmp (ok : CmpOk G X) (o : Cop) (ha : PE X a (rE G fa)) (hb : PE X b (rE G fb)) (hm : behindInMarks (copOf o) b = false) : PE X (.Compare a [copOf o] [b] pos) (rE G (mB (mCmpB o fa fb))) :=
  PEimp (pe_cmpR (ok.ok o) ha hb hm) fun σ H Q ⟨O, h, φ, env, R, E, P⟩ => cmp_rd o R E (mB_post P)
theorem t_cmp (ok : CmpOk G X) (o : Cop) (ha : PE X a (rE G fa)) (hb : PE X b (rE G fb)) (hm : behindInMarks (copOf o) b = false) : PT X (.Compare a [copOf o] [b] pos) (rT G (mCmpB o fa fb)) :=
  PTimp (pt_cmpR (ok.ok o) ha hb hm) fun σ H Q ⟨O, h, φ, env, R, E, P⟩ => cmp_rd (Q := fun x H' => ∃ k, x = .bl k ∧ Q k H') o R E (P.mono fun b H' q => ⟨b, rfl, q⟩)
/-- a < b < c -/
def mChn (o o' : Cop) (fa fb fc : Mv) : Mb := fun env h => (fa env h).bind fun x h1 => (fb env h1).bind fun y h2 => match cmpI o (view h2 x) (view h2 y) with
  | some true => (fc env h2).bind fun z h3 => .ofO (cmpI o' (view h3 y) (view h3 z)) h3
  | some false => .ok false h2
  | none => .bad
theorem chn_rd (o o' : Cop) {σ : L2.St} {H : Hp} {Q : VK} {O : Addr → Prop} {h : IH} {φ : List Addr} {env : Env} (R : Rep G O h φ H) (E : EnvR G (Lv O h φ) φ H env σ) (P : Post relB G O h φ H (mChn o o' fa fb fc env h) fun b H' => Q (.bl b) H') :
    tChain (rC G o) (rC G o') (rE G fa) (rE G fb) (rE G fc) σ H Q := by
  refine ⟨O, h, φ, env, R, E, (P.bind (rel := relV G)).mono fun v H1 ⟨x, h1, φ1, _, g1, r1, P1⟩ => ?_⟩
  refine ⟨O, h1, φ1, env, g1.rep, E.go R g1, (P1.bind (rel := relV G)).mono fun u H2 ⟨y, h2, φ2, _, g2, r2, P2⟩ => ?_⟩
  cases e : cmpI o (view h2 x) (view h2 y) with
  | none =>
    rw [e] at P2
    exact P2.elim
  | some c =>
    rw [e] at P2
    refine ⟨Lv O h2 φ2, φ2, _, _, c, RW.view g2.rep (relV.go g1.rep g2 r1), RW.view g2.rep r2, e, c, rfl, ?_⟩
    cases c with
    | false => exact iteF (P2 φ2 H2 false (Go.refl g2.rep) rfl)
    | true =>
      refine iteT ⟨O, h2, φ2, env, g2.rep, (E.go R g1).go g1.rep g2, (Post.bind (rel := relV G) P2).mono fun w H3 ⟨z, h3, φ3, _, g3, r3, P3⟩ => ?_⟩
      cases e2 : cmpI o' (view h3 y) (view h3 z) with
      | none =>
        rw [e2] at P3
        exact P3.elim
      | some c =>
        rw [e2] at P3
        exact ⟨Lv O h3 φ3, φ3, _, _, c, RW.view g3.rep (relV.go g2.rep g3 r2), RW.view g3.rep r3, e2, P3 φ3 H3 c (Go.refl g3.rep) rfl⟩
theorem s_chn (ok : CmpOk G X) (o o' : Cop) (ha : PE X a (rE G fa)) (hb : PE X b (rE G fb)) (hc : PE X c (rE G fc)) (hm : lastMarks [copOf o, copOf o'] [b, c] = false) : PE X (.Compare a [copOf o, copOf o'] [b, c] pos) (rE G (mB (mChn o o' fa fb fc))) :=
  PEimp (pe_chain (ok.ok o) (ok.ok o') ha hb hc hm) fun σ H Q ⟨O, h, φ, env, R, E, P⟩ => chn_rd o o' R E (mB_post P)
theorem t_chn (ok : CmpOk G X) (o o' : Cop) (ha : PE X a (rE G fa)) (hb : PE X b (rE G fb)) (hc : PE X c (rE G fc)) (hm : lastMarks [copOf o, copOf o'] [b, c] = false) : PT X (.Compare a [copOf o, copOf o'] [b, c] pos) (rT G (mChn o o' fa fb fc)) :=
  PTimp (pt_chain (ok.ok o) (ok.ok o') ha hb hc hm) fun σ H Q ⟨O, h, φ, env, R, E, P⟩ => chn_rd (Q := fun x H' => ∃ k, x = .bl k ∧ Q k H') o o' R E (P.mono fun b H' q => ⟨b, rfl, q⟩)

/-! ### tests -/
def mTru (f : Mv) : Mb := fun env h => (f env h).bind fun x h1 => .ofO (truI (view h1 x)) h1
theorem tru_of (hK : G.K = X.K) {lv : Addr → Prop} {φ : List Addr} {H : Hp} {x : IV} {v : V} {k : Bool} (r : RW G lv φ H x v) (e : truI x = some k) : TruV X.K v H k := by
  cases x with
  | non => simp only [RW, RV] at r; subst r; simp only [truI] at e; exact (Option.some.inj e).symm
  | bl b => simp only [RW, RV] at r; subst r; simp only [truI] at e; exact (Option.some.inj e).symm
  | int b => simp only [RW, RV] at r; subst r; simp only [truI] at e; exact (Option.some.inj e).symm
  | str b =>
    simp only [RW, RV] at r; subst r; simp only [truI] at e
    split at e
    · rename_i hz
      exact ⟨hz, (Option.some.inj e).symm⟩
    · cases e
  | lst xs =>
    obtain ⟨p, vs, rfl, q, r⟩ := r
    simp only [truI] at e
    refine .inl ⟨vs, SqL.of q, ?_⟩
    rw [← Option.some.inj e]
    have l := r.length
    cases vs <;> cases xs <;> first | rfl | (simp at l)
  | tup xs =>
    simp only [RW, RV] at r
    obtain ⟨p, vs, rfl, q, r⟩ := r
    simp only [truI] at e
    refine .inr (.inl ⟨vs, hK ▸ q, ?_⟩)
    rw [← Option.some.inj e]
    have l := r.length
    cases vs <;> cases xs <;> first | rfl | (simp at l)
  | _ => simp only [truI] at e; cases e
theorem t_truth (hK : G.K = X.K) (ha : PE X a (rE G fa)) (he : ∀ whole, isTrue a X.env whole = (do let v ← whole; standAt a.pos; holding [v] (truthy v))) : PT X a (rT G (mTru fa)) := by
  refine PTimp (pt_truth ha he) fun σ H Q ⟨O, h, φ, env, R, E, P⟩ => ?_
  refine ⟨O, h, φ, env, R, E, (P.bind (rel := relV G)).mono fun v H1 ⟨x, h1, φ1, _, g1, r1, P1⟩ => ?_⟩
  cases e : truI (view h1 x) with
  | none =>
    rw [e] at P1
    exact P1.elim
  | some k =>
    rw [e] at P1
    exact ⟨k, tru_of hK (RW.view g1.rep r1) e, P1 φ1 H1 k (Go.refl g1.rep) rfl⟩
variable {ta tb tc : Mb} {rest : List Expr}
def mNot (f : Mb) : Mb := fun env h => (f env h).bind fun b h1 => .ok (!b) h1
theorem t_not (ha : PT X a (rT G ta)) : PT X (.UnaryOp .Not a pos) (rT G (mNot ta)) := by
  refine PTimp (pt_not ha) fun σ H Q ⟨O, h, φ, env, R, E, P⟩ => ?_
  refine ⟨O, h, φ, env, R, E, (P.bind (rel := relB)).mono fun v H1 ⟨x, h1, φ1, _, g1, r1, P1⟩ => ?_⟩
  have r1' : v = x := r1
  subst r1'
  exact P1 φ1 H1 _ (Go.refl g1.rep) rfl
def mAnd (f g : Mb) : Mb := fun env h => (f env h).bind fun b h1 => if b = true then g env h1 else .ok false h1
def mOr (f g : Mb) : Mb := fun env h => (f env h).bind fun b h1 => if b = true then .ok true h1 else g env h1
theorem t_and1 (ha : PT X a (rT G ta)) : PW X (.BoolOp .And [a] pos) (rT G ta) := pw_and1 ha
theorem t_or1 (ha : PT X a (rT G ta)) : PW X (.BoolOp .Or [a] pos) (rT G ta) := pw_or1 ha
theorem t_and (ha : PT X a (rT G ta)) (hb : PW X (.BoolOp .And (b :: rest) pos) (rT G tb)) : PW X (.BoolOp .And (a :: b :: rest) pos) (rT G (mAnd ta tb)) := by
  refine PWimp (pw_and ha hb) fun σ H Q ⟨O, h, φ, env, R, E, P⟩ => ?_
  refine ⟨O, h, φ, env, R, E, (P.bind (rel := relB)).mono fun v H1 ⟨x, h1, φ1, _, g1, r1, P1⟩ => ?_⟩
  have r1' : v = x := r1
  subst r1'
  cases v with
  | true => exact iteT ⟨O, h1, φ1, env, g1.rep, E.go R g1, P1⟩
  | false => exact iteF (P1 φ1 H1 _ (Go.refl g1.rep) rfl)
theorem t_or (ha : PT X a (rT G ta)) (hb : PW X (.BoolOp .Or (b :: rest) pos) (rT G tb)) : PW X (.BoolOp .Or (a :: b :: rest) pos) (rT G (mOr ta tb)) := by
  refine PWimp (pw_or ha hb) fun σ H Q ⟨O, h, φ, env, R, E, P⟩ => ?_
  refine ⟨O, h, φ, env, R, E, (P.bind (rel := relB)).mono fun v H1 ⟨x, h1, φ1, _, g1, r1, P1⟩ => ?_⟩
  have r1' : v = x := r1
  subst r1'
  cases v with
  | true => exact iteT (P1 φ1 H1 _ (Go.refl g1.rep) rfl)
  | false => exact iteF ⟨O, h1, φ1, env, g1.rep, E.go R g1, P1⟩
/-- as values: what stands ahead is a bool -/
def asB (x : IV) (h : IH) : Res Bool := match x with
  | .bl b => .ok b h
  | _ => .bad
def mAndV (f g : Mv) : Mv := fun env h => (f env h).bind fun x h1 => (asB x h1).bind fun b h2 => if b = true then g env h2 else .ok (.bl false) h2
def mOrV (f g : Mv) : Mv := fun env h => (f env h).bind fun x h1 => (asB x h1).bind fun b h2 => if b = true then .ok (.bl true) h2 else g env h2
def mNotV (f : Mv) : Mv := fun env h => (f env h).bind fun x h1 => (asB x h1).bind fun b h2 => .ok (.bl (!b)) h2
theorem asB_of {γ δ : Type} {rel2 : Rel γ δ} {O : Addr → Prop} {h : IH} {φ : List Addr} {H : Hp} {x : IV} {v : V} {k : Bool → IH → Res γ} {Q : δ → Hp → Prop} (r : RV G (Lv O h φ) φ H x v) (P : Post rel2 G O h φ H ((asB x h).bind k) Q) : ∃ b, v = .bl b ∧ Post rel2 G O h φ H (k b h) Q := by
  cases x with
  | bl b =>
    simp only [RV] at r
    exact ⟨b, r, P⟩
  | _ => exact P.elim
theorem s_one {op : BoolOp} (ha : PE X a (rE G fa)) : PE X (.BoolOp op [a] pos) (rE G fa) := pe_one ha
theorem s_and (ha : PE X a (rE G fa)) (hb : PE X (.BoolOp .And (b :: rest) pos) (rE G fb)) : PE X (.BoolOp .And (a :: b :: rest) pos) (rE G (mAndV fa fb)) := by
  refine PEimp (pe_and ha hb) fun σ H Q ⟨O, h, φ, env, R, E, P⟩ => ?_
  refine ⟨O, h, φ, env, R, E, (P.bind (rel := relV G)).mono fun v H1 ⟨x, h1, φ1, _, g1, r1, P1⟩ => ?_⟩
  obtain ⟨k, e, P2⟩ := asB_of r1 P1
  refine ⟨k, e, ?_⟩
  cases k with
  | true => exact iteT ⟨O, h1, φ1, env, g1.rep, E.go R g1, P2⟩
  | false => exact iteF (P2 φ1 H1 _ (Go.refl g1.rep) (by simp only [relV, RV]))
theorem s_or (ha : PE X a (rE G fa)) (hb : PE X (.BoolOp .Or (b :: rest) pos) (rE G fb)) : PE X (.BoolOp .Or (a :: b :: rest) pos) (rE G (mOrV fa fb)) := by
  refine PEimp (pe_or ha hb) fun σ H Q ⟨O, h, φ, env, R, E, P⟩ => ?_
  refine ⟨O, h, φ, env, R, E, (P.bind (rel := relV G)).mono fun v H1 ⟨x, h1, φ1, _, g1, r1, P1⟩ => ?_⟩
  obtain ⟨k, e, P2⟩ := asB_of r1 P1
  refine ⟨k, e, ?_⟩
  cases k with
  | true => exact iteT (P2 φ1 H1 _ (Go.refl g1.rep) (by simp only [relV, RV]))
  | false => exact iteF ⟨O, h1, φ1, env, g1.rep, E.go R g1, P2⟩
theorem s_not (ha : PE X a (rE G fa)) : PE X (.UnaryOp .Not a pos) (rE G (mNotV fa)) := by
  refine PEimp (pe_not ha) fun σ H Q ⟨O, h, φ, env, R, E, P⟩ => ?_
  refine ⟨O, h, φ, env, R, E, (P.bind (rel := relV G)).mono fun v H1 ⟨x, h1, φ1, _, g1, r1, P1⟩ => ?_⟩
  obtain ⟨k, e, P2⟩ := asB_of r1 P1
  exact ⟨k, e, P2 φ1 H1 _ (Go.refl g1.rep) (by simp only [relV, RV])⟩
def mIf (t : Mb) (f g : Mv) : Mv := fun env h => (t env h).bind fun b h1 => if b = true then f env h1 else g env h1
theorem s_if (hc : PT X c (rT G tc)) (ha : PE X a (rE G fa)) (hb : PE X b (rE G fb)) : PE X (.IfExp c a b pos) (rE G (mIf tc fa fb)) := by
  refine PEimp (pe_ifExp hc ha hb) fun σ H Q ⟨O, h, φ, env, R, E, P⟩ => ?_
  refine ⟨O, h, φ, env, R, E, (P.bind (rel := relB)).mono fun v H1 ⟨x, h1, φ1, _, g1, r1, P1⟩ => ?_⟩
  have r1' : v = x := r1
  subst r1'
  cases v with
  | true => exact iteT ⟨O, h1, φ1, env, g1.rep, E.go R g1, P1⟩
  | false => exact iteF ⟨O, h1, φ1, env, g1.rep, E.go R g1, P1⟩
def mNeg (f : Mv) : Mv := fun env h => (f env h).bind fun x h1 => match x with
  | .int i => .ok (.int (-i)) h1
  | _ => .bad
theorem s_neg (ha : PE X a (rE G fa)) : PE X (.UnaryOp .USub a pos) (rE G (mNeg fa)) := by
  refine PEimp (pe_un un_neg ha) fun σ H Q ⟨O, h, φ, env, R, E, P⟩ => ?_
  refine ⟨O, h, φ, env, R, E, (P.bind (rel := relV G)).mono fun v H1 ⟨x, h1, φ1, _, g1, r1, P1⟩ => ?_⟩
  cases x with
  | int i =>
    simp only [relV, RV] at r1
    exact ⟨i, r1, P1 φ1 H1 _ (Go.refl g1.rep) (by simp only [relV, RV])⟩
  | _ => exact P1.elim
end
end Iv

/-! IvF: the objects that change; displays, fields, places, cuts, built-ins. -/
namespace Iv
open PySem PySem.Spec PyProof.Rows L2

section
variable {G : Gx} {O : Addr → Prop} {h : IH} {φ : List Addr} {H : Hp} {n : Nat} {a p : Addr} {o o' : IO} {ho : HO}
theorem lv_at (hn : h[n]? = some (some o)) (ha : φ[n]? = some a) : Lv O h φ a := .inr ⟨n, o, hn, ha⟩
theorem lv_set (hn : h[n]? = some (some o)) : Lv O (h.set n (some o')) φ = Lv O h φ := by
  have ln : n < h.length := (List.getElem?_eq_some_iff.mp hn).1
  funext b
  refine propext ⟨?_, ?_⟩
  · rintro (l | ⟨i, u, e1, e2⟩)
    · exact .inl l
    · by_cases hi : i = n
      · subst hi
        exact .inr ⟨i, o, hn, e2⟩
      · rw [List.getElem?_set_ne (Ne.symm hi)] at e1
        exact .inr ⟨i, u, e1, e2⟩
  · rintro (l | ⟨i, u, e1, e2⟩)
    · exact .inl l
    · by_cases hi : i = n
      · subst hi
        exact .inr ⟨i, o', List.getElem?_set_self ln, e2⟩
      · exact .inr ⟨i, u, by rw [List.getElem?_set_ne (Ne.symm hi)]; exact e1, e2⟩
theorem lv_kill {b : Addr} (l : Lv O (h.set n none) φ b) : Lv O h φ b := by
  rcases l with l | ⟨i, u, e1, e2⟩
  · exact .inl l
  · by_cases hi : i = n
    · subst hi
      by_cases ln : i < h.length
      · rw [List.getElem?_set_self ln] at e1
        cases e1
      · rw [List.getElem?_eq_none (by simpa using ln)] at e1
        cases e1
    · rw [List.getElem?_set_ne (Ne.symm hi)] at e1
      exact .inr ⟨i, u, e1, e2⟩
theorem ext_write (l : Lv O h φ a) : Ext (Lv O h φ) φ H (Lv O h φ) φ (upd H a ho) := ⟨fun b u e nl => by
  rw [upd_ne (fun z => nl (by rw [z]; exact l))]
  exact e, fun _ _ _ nl => nl, [], by simp⟩
/-- an object of ours changes -/
theorem Rep.write (R : Rep G O h φ H) (hn : h[n]? = some (some o)) (ha : φ[n]? = some a) (mu : Mut (some ho)) (new : RO G (Lv O h φ) φ (upd H a ho) a o') : Go G O h φ H (h.set n (some o')) φ (upd H a ho) := by
  have ln : n < h.length := (List.getElem?_eq_some_iff.mp hn).1
  have l : Lv O h φ a := lv_at hn ha
  have x : Ext (Lv O h φ) φ H (Lv O h φ) φ (upd H a ho) := ext_write l
  have nO : ∀ b, O b → b ≠ a := fun b ob z => R.dis n a o hn ha (z ▸ ob)
  have at_ : ∀ (i : Nat) (u : IO), (h.set n (some o'))[i]? = some (some u) → (i = n ∧ u = o') ∨ (i ≠ n ∧ h[i]? = some (some u)) := fun i u e => by
    by_cases hi : i = n
    · subst hi
      rw [List.getElem?_set_self ln] at e
      exact .inl ⟨rfl, (Option.some.inj (Option.some.inj e)).symm⟩
    · rw [List.getElem?_set_ne (Ne.symm hi)] at e
      exact .inr ⟨hi, e⟩
  have was : ∀ (i : Nat) (u : IO), (h.set n (some o'))[i]? = some (some u) → ∃ u', h[i]? = some (some u') := fun i u e => by
    rcases at_ i u e with ⟨rfl, _⟩ | ⟨_, e⟩
    · exact ⟨o, hn⟩
    · exact ⟨u, e⟩
  refine ⟨⟨by rw [List.length_set]; exact R.len, fun i j b u u' e1 e2 e3 e4 => ?_, fun b ob => by rw [upd_ne (nO b ob)]; exact R.out b ob, fun i b u e1 e2 => ?_, fun i u b e1 e2 => ?_⟩, by rw [lv_set hn]; exact x, fun b ob => upd_ne (nO b ob)⟩
  · obtain ⟨_, f1⟩ := was i u e3
    obtain ⟨_, f2⟩ := was j u' e4
    exact R.nd i j b _ _ e1 e2 f1 f2
  · obtain ⟨_, f1⟩ := was i u e1
    exact R.dis i b _ f1 e2
  · rw [lv_set hn]
    rcases at_ i u e1 with ⟨rfl, rfl⟩ | ⟨ne, e⟩
    · rw [ha] at e2
      cases e2
      exact new
    · refine (R.obj i u b e e2).mono x R.ok (upd_ne fun z => ?_)
      subst z
      exact ne (R.nd i n b _ _ e2 ha e hn)
/-- a new object of ours -/
theorem Rep.alloc (R : Rep G O h φ H) (hp : H p = none) (mu : Mut (some ho)) (new : ∀ lv φ', Ext (Lv O h φ) φ H lv φ' (upd H p ho) → RO G lv φ' (upd H p ho) p o) : Go G O h φ H (h ++ [some o]) (φ ++ [p]) (upd H p ho) := by
  have old : ∀ (i : Nat) (b : Addr) (u : IO), (h ++ [some o])[i]? = some (some u) → (φ ++ [p])[i]? = some b → (i = h.length ∧ b = p ∧ u = o) ∨ (h[i]? = some (some u) ∧ φ[i]? = some b) := fun i b u e1 e2 => by
    by_cases hi : i < h.length
    · rw [List.getElem?_append_left hi] at e1
      rw [List.getElem?_append_left (by rw [R.len]; exact hi)] at e2
      exact .inr ⟨e1, e2⟩
    · have hi2 : i = h.length := by
        have := (List.getElem?_eq_some_iff.mp e1).1
        simp at this
        omega
      subst hi2
      rw [List.getElem?_append_right (Nat.le_refl _)] at e1
      rw [← R.len, List.getElem?_append_right (Nat.le_refl _)] at e2
      simp at e1 e2
      exact .inl ⟨rfl, e2.symm, e1.symm⟩
  have np : ∀ b, Lv O h φ b → b ≠ p := fun b l z => by
    have m := R.ok b l
    rw [z, hp] at m
    exact m
  have x : Ext (Lv O h φ) φ H (Lv O (h ++ [some o]) (φ ++ [p])) (φ ++ [p]) (upd H p ho) := by
    refine ⟨fun b u e _ => by rw [upd_ne (ne_of_none e hp)]; exact e, fun b u e nl l => ?_, [p], rfl⟩
    rcases l with l | ⟨i, u', e1, e2⟩
    · exact nl (.inl l)
    · rcases old i b u' e1 e2 with ⟨_, rfl, _⟩ | ⟨f1, f2⟩
      · rw [hp] at e
        cases e
      · exact nl (.inr ⟨i, u', f1, f2⟩)
  refine ⟨⟨by rw [List.length_append, List.length_append, R.len]; rfl, fun i j b u u' e1 e2 e3 e4 => ?_, fun b ob => by rw [upd_ne (np b (.inl ob))]; exact R.out b ob, fun i b u e1 e2 ob => ?_, fun i u b e1 e2 => ?_⟩, x, fun b ob => upd_ne (np b (.inl ob))⟩
  · rcases old i b u e3 e1 with ⟨rfl, rfl, _⟩ | ⟨f1, f2⟩
    · rcases old j b u' e4 e2 with ⟨rfl, _, _⟩ | ⟨g1, g2⟩
      · rfl
      · exact absurd rfl (np b (.inr ⟨j, u', g1, g2⟩))
    · rcases old j b u' e4 e2 with ⟨rfl, rfl, _⟩ | ⟨g1, g2⟩
      · exact absurd rfl (np b (.inr ⟨i, u, f1, f2⟩))
      · exact R.nd i j b _ _ f2 g2 f1 g1
  · rcases old i b u e1 e2 with ⟨_, rfl, _⟩ | ⟨f1, f2⟩
    · exact np b (.inl ob) rfl
    · exact R.dis i b u f1 f2 ob
  · rcases old i b u e1 e2 with ⟨_, rfl, rfl⟩ | ⟨f1, f2⟩
    · exact new _ _ x
    · exact (R.obj i u b f1 f2).mono x R.ok (upd_ne (np b (.inr ⟨i, u, f1, f2⟩)))
/-- an object of ours changes no more -/
theorem Rep.kill (R : Rep G O h φ H) : Go G O h φ H (h.set n none) φ H := by
  have x : Ext (Lv O h φ) φ H (Lv O (h.set n none) φ) φ H := ⟨fun _ _ e _ => e, fun _ _ _ nl l => nl (lv_kill l), [], by simp⟩
  have was : ∀ (i : Nat) (u : IO), (h.set n none)[i]? = some (some u) → h[i]? = some (some u) := fun i u e => by
    by_cases hi : i = n
    · subst hi
      by_cases ln : i < h.length
      · rw [List.getElem?_set_self ln] at e
        cases e
      · rw [List.getElem?_eq_none (by simpa using ln)] at e
        cases e
    · rw [List.getElem?_set_ne (Ne.symm hi)] at e
      exact e
  exact ⟨⟨by rw [List.length_set]; exact R.len, fun i j b u u' e1 e2 e3 e4 => R.nd i j b u u' e1 e2 (was i u e3) (was j u' e4), R.out, fun i b u e1 e2 => R.dis i b u (was i u e1) e2, fun i u b e1 e2 => (R.obj i u b (was i u e1) e2).mono x R.ok rfl⟩, x, fun _ _ => rfl⟩
theorem frz_rv (R : Rep G O h φ H) (hn : h[n]? = some (some o)) (ha : φ[n]? = some a) : RV G (Lv O (h.set n none) φ) φ H (viewO o) (.ref a) := by
  have ln : n < h.length := (List.getElem?_eq_some_iff.mp hn).1
  have g : Go G O h φ H (h.set n none) φ H := R.kill
  have nl : ¬ Lv O (h.set n none) φ a := by
    rintro (l | ⟨i, u, e1, e2⟩)
    · exact R.dis n a o hn ha l
    · by_cases hi : i = n
      · subst hi
        rw [List.getElem?_set_self ln] at e1
        cases e1
      · rw [List.getElem?_set_ne (Ne.symm hi)] at e1
        exact hi (R.nd i n a _ _ e2 ha e1 hn)
  have r := (R.obj n o a hn ha).mono g.ext R.ok rfl
  cases o with
  | lst xs =>
    obtain ⟨vs, e1, e2⟩ := r
    simp only [viewO, RV]
    exact ⟨a, vs, rfl, nl, e1, e2⟩
  | dic ks vs =>
    obtain ⟨ks', vs', e1, e2, e3⟩ := r
    simp only [viewO, RV]
    exact ⟨a, ks', vs', rfl, nl, e1, e2, e3⟩
  | dcn ks vs =>
    obtain ⟨nks, ks', vs', e1, e2, e3, e4⟩ := r
    simp only [viewO, RV]
    exact ⟨a, nks, ks', vs', rfl, nl, e1, e2, e3, e4⟩
  | ins c ns vs =>
    obtain ⟨dx, fvs, e1, e2, e3⟩ := r
    simp only [viewO, RV]
    exact ⟨a, dx, fvs, rfl, nl, e1, e2, e3⟩
end
section
variable {X : Cx} {G : Gx} {a b c e : Expr} {es : List Expr} {fa fb fc : Mv} {pos : Pos} {fs : Ma}
def mFrz (f : Mv) : Mv := fun env h => (f env h).bind fun x h1 => frz x h1
theorem s_frz (ha : PE X a (rE G fa)) : PE X a (rE G (mFrz fa)) := by
  refine PEimp ha fun σ H Q ⟨O, h, φ, env, R, E, P⟩ => ?_
  refine ⟨O, h, φ, env, R, E, (P.bind (rel := relV G)).mono fun v H1 ⟨x, h1, φ1, _, g1, r1, P1⟩ => ?_⟩
  have same : frz x h1 = .ok x h1 → Q v H1 := fun e => by
    rw [e] at P1
    exact P1 φ1 H1 v (Go.refl g1.rep) r1
  cases x with
  | ref n =>
    simp only [relV, RV] at r1
    obtain ⟨a, e, rfl⟩ := r1
    cases q : h1[n]? with
    | none =>
      have z : frz (.ref n) h1 = .bad := by simp only [frz, q]
      rw [z] at P1
      exact P1.elim
    | some o =>
      cases o with
      | none =>
        have z : frz (.ref n) h1 = .bad := by simp only [frz, q]
        rw [z] at P1
        exact P1.elim
      | some o =>
        have z : frz (.ref n) h1 = .ok (viewO o) (h1.set n none) := by simp only [frz, q]
        rw [z] at P1
        exact P1 φ1 H1 _ g1.rep.kill (frz_rv g1.rep q e)
  | _ => exact same rfl

/-! ### arguments, displays -/
def mNil : Ma := fun _ h => .ok [] h
def mCons (f : Mv) (g : Ma) : Ma := fun env h => (f env h).bind fun x h1 => (g env h1).bind fun xs h2 => .ok (x :: xs) h2
def mStar (f : Mv) (g : Ma) : Ma := fun env h => (f env h).bind fun x h1 => match view h1 x with
  | .tup ys => (g env h1).bind fun xs h2 => .ok (ys ++ xs) h2
  | .lst ys => (g env h1).bind fun xs h2 => .ok (ys ++ xs) h2
  | _ => .bad
theorem a_nil : PA X [] (rA G mNil) := PAimp pa_nil fun σ H Q ⟨O, h, φ, env, R, E, P⟩ => P φ H [] (Go.refl R) (by simp only [relA, RVs])
theorem a_cons (ha : PE X e (rE G fa)) (hr : PA X es (rA G fs)) (hs : starEach (e :: es) X.env = (false, eval e X.env) :: starEach es X.env) : PA X (e :: es) (rA G (mCons fa fs)) := by
  refine PAimp (pa_cons ha hr hs) fun σ H Q ⟨O, h, φ, env, R, E, P⟩ => ?_
  refine ⟨O, h, φ, env, R, E, (P.bind (rel := relV G)).mono fun v H1 ⟨x, h1, φ1, _, g1, r1, P1⟩ => ?_⟩
  refine ⟨O, h1, φ1, env, g1.rep, E.go R g1, (P1.bind (rel := relA G)).mono fun u H2 ⟨y, h2, φ2, _, g2, r2, P2⟩ => ?_⟩
  refine P2 φ2 H2 _ (Go.refl g2.rep) ?_
  simp only [relA, RVs]
  exact ⟨v, u, rfl, relV.go g1.rep g2 r1, r2⟩
theorem a_star {p : Pos} (hK : G.K = X.K) (ha : PE X e (rE G fa)) (hr : PA X es (rA G fs)) (hs : starEach (.Starred e p :: es) X.env = (true, eval e X.env) :: starEach es X.env) : PA X (.Starred e p :: es) (rA G (mStar fa fs)) := by
  refine PAimp (StX.pa_star ha hr hs) fun σ H Q ⟨O, h, φ, env, R, E, P⟩ => ?_
  refine ⟨O, h, φ, env, R, E, (P.bind (rel := relV G)).mono fun v H1 ⟨x, h1, φ1, _, g1, r1, P1⟩ => ?_⟩
  have w := RW.view g1.rep r1
  cases q : view h1 x with
  | tup ys =>
    rw [q] at w P1
    simp only [RW, RV] at w
    obtain ⟨p, vs, rfl, hq, r⟩ := w
    refine ⟨p, vs, rfl, .inl (hK ▸ hq), O, h1, φ1, env, g1.rep, E.go R g1, (Post.bind (rel := relA G) P1).mono fun u H2 ⟨y, h2, φ2, _, g2, r2, P2⟩ => ?_⟩
    exact P2 φ2 H2 _ (Go.refl g2.rep) (RVs.append (relA.go g1.rep g2 r) r2)
  | lst ys =>
    rw [q] at w P1
    obtain ⟨p, vs, rfl, hq, r⟩ := w
    refine ⟨p, vs, rfl, .inr (SqL.of hq), O, h1, φ1, env, g1.rep, E.go R g1, (Post.bind (rel := relA G) P1).mono fun u H2 ⟨y, h2, φ2, _, g2, r2, P2⟩ => ?_⟩
    exact P2 φ2 H2 _ (Go.refl g2.rep) (RVs.append (relA.go g1.rep g2 r) r2)
  | _ =>
    rw [q] at P1
    exact P1.elim
def mTup (g : Ma) : Mv := fun env h => (g env h).bind fun xs h1 => if xs.length ≤ sizeLine then .ok (.tup xs) h1 else .bad
def mLst (g : Ma) : Mv := fun env h => (g env h).bind fun xs h1 => if xs.length ≤ sizeLine then .ok (.lst xs) h1 else .bad
def mNew (g : Ma) : Mv := fun env h => (g env h).bind fun xs h1 => if xs.length ≤ sizeLine then .ok (.ref h1.length) (h1 ++ [some (.lst xs)]) else .bad
theorem s_tup {k : Nat} (ha : PA X es (rA G fs)) : PE X (.Tuple es k pos) (rE G (mTup fs)) := by
  refine PEimp (pe_tup ha) fun σ H Q ⟨O, h, φ, env, R, E, P⟩ => ?_
  refine ⟨O, h, φ, env, R, E, (P.bind (rel := relA G)).mono fun v H1 ⟨x, h1, φ1, _, g1, r1, P1⟩ => ?_⟩
  split at P1
  · rename_i hz
    refine ⟨by rw [RVs.length r1]; exact hz, fun p n => ?_⟩
    exact P1 φ1 _ _ (Go.same g1.rep (same_upd n)) (RV.newT g1.rep.ok n r1)
  · exact P1.elim
theorem s_lst (ha : PA X es (rA G fs)) : PE X (.List es pos) (rE G (mLst fs)) := by
  refine PEimp (pe_lst ha) fun σ H Q ⟨O, h, φ, env, R, E, P⟩ => ?_
  refine ⟨O, h, φ, env, R, E, (P.bind (rel := relA G)).mono fun v H1 ⟨x, h1, φ1, _, g1, r1, P1⟩ => ?_⟩
  split at P1
  · rename_i hz
    refine ⟨by rw [RVs.length r1]; exact hz, fun p n => ?_⟩
    exact P1 φ1 _ _ (Go.same g1.rep (same_upd n)) (RV.newL g1.rep.ok n r1)
  · exact P1.elim
theorem s_new (ha : PA X es (rA G fs)) : PE X (.List es pos) (rE G (mNew fs)) := by
  refine PEimp (pe_lst ha) fun σ H Q ⟨O, h, φ, env, R, E, P⟩ => ?_
  refine ⟨O, h, φ, env, R, E, (P.bind (rel := relA G)).mono fun v H1 ⟨x, h1, φ1, _, g1, r1, P1⟩ => ?_⟩
  split at P1
  · rename_i hz
    refine ⟨by rw [RVs.length r1]; exact hz, fun p n => ?_⟩
    have al := g1.rep.alloc (o := .lst x) (ho := .lst v) n trivial fun lv φ' xx => ⟨v, upd_same, RVs.mono xx g1.rep.ok _ r1⟩
    refine P1 (φ1 ++ [p]) _ _ al ?_
    simp only [relV, RV]
    refine ⟨p, ?_, rfl⟩
    rw [← g1.rep.len, List.getElem?_append_right (Nat.le_refl _)]
    simp
  · exact P1.elim
end
end Iv

/-! IvG: fields, places, cuts, built-in functions. -/
namespace Iv
open PySem PySem.Spec PyProof.Rows L2

/-- what of the text a class must have -/
structure ClsF (K : PySem.W.Frag) (C : Addr) : Prop where
  cl : Cls K C
  ha : PySem.W.findIn K (.ref C) "__class__" = some (some (.builtin "object.__class__"))
  hn : PySem.W.specialIn K (.builtin "object.__class__") "__get__" = some (some (.builtin "getset_descriptor.__get__"))
  htk : PySem.W.takesIn K (.builtin "object.__class__") = some true
  hm : PySem.W.mroIn K C (.type "object") = some true
/-- the names of the text stand for what they stand for -/
structure Facts (G : Gx) : Prop where
  inj : ∀ a b, a < G.nf → b < G.nf → G.fnm a = G.fnm b → a = b
  cls : ∀ c, c < G.nc → ClsF G.K (G.cad c)
  noat : ∀ c n, c < G.nc → n < G.nf → NoAttr G.K (G.cad c) (G.fnm n)

def look (n : Nat) : List Nat → List IV → Option IV
  | m :: ns, v :: vs => if m = n then some v else look n ns vs
  | _, _ => none
def putI (n : Nat) (y : IV) : List Nat → List IV → List Nat × List IV
  | m :: ns, v :: vs => if m = n then (m :: ns, y :: vs) else ((m :: (putI n y ns vs).1), v :: (putI n y ns vs).2)
  | _, _ => ([n], [y])
section
variable {G : Gx} {lv : Addr → Prop} {φ : List Addr} {H : Hp}
theorem look_of (F : Facts G) {n : Nat} (hn : n < G.nf) : ∀ {ns : List Nat} {vs : List IV} {fvs : List V} {x : IV}, (∀ m ∈ ns, m < G.nf) → RVs G lv φ H vs fvs → look n ns vs = some x → ∃ v, ((ns.map G.fnm).zip fvs).lookup (G.fnm n) = some v ∧ RV G lv φ H x v
  | [], vs, fvs, x, hm, r, e => by simp only [look] at e; cases e
  | m :: ns, [], fvs, x, hm, r, e => by simp only [look] at e; cases e
  | m :: ns, v :: vs, fvs, x, hm, r, e => by
    simp only [RVs] at r
    obtain ⟨u, us, rfl, r1, r2⟩ := r
    simp only [look] at e
    rw [List.map_cons, List.zip_cons_cons, List.lookup_cons]
    by_cases h : m = n
    · subst h
      rw [if_pos rfl] at e
      cases e
      exact ⟨u, by simp, r1⟩
    · rw [if_neg h] at e
      have ne : (G.fnm n == G.fnm m) = false := beq_eq_false_iff_ne.mpr fun z => h (F.inj m n (hm m List.mem_cons_self) hn z.symm)
      rw [ne]
      exact look_of F hn (fun k hk => hm k (List.mem_cons_of_mem _ hk)) r2 e
theorem put_of (F : Facts G) {n : Nat} (hn : n < G.nf) {y : IV} {u : V} (ry : RV G lv φ H y u) : ∀ {ns : List Nat} {vs : List IV} {fvs : List V}, (∀ m ∈ ns, m < G.nf) → ns.length = vs.length → RVs G lv φ H vs fvs →
    ∃ fvs', putF (G.fnm n) u ((ns.map G.fnm).zip fvs) = ((putI n y ns vs).1.map G.fnm).zip fvs' ∧ RVs G lv φ H (putI n y ns vs).2 fvs' ∧ (putI n y ns vs).1.length = (putI n y ns vs).2.length ∧ (putI n y ns vs).1.length ≤ ns.length + 1 ∧ ∀ m ∈ (putI n y ns vs).1, m < G.nf
  | [], vs, fvs, hm, hl, r => by
    cases vs with
    | cons _ _ => cases hl
    | nil =>
      simp only [RVs] at r
      subst r
      exact ⟨[u], rfl, by simp only [putI, RVs]; exact ⟨u, [], rfl, ry, rfl⟩, rfl, Nat.le_refl _, fun m h => by simp only [putI, List.mem_singleton] at h; rw [h]; exact hn⟩
  | m :: ns, [], fvs, hm, hl, r => by cases hl
  | m :: ns, v :: vs, fvs, hm, hl, r => by
    simp only [RVs] at r
    obtain ⟨w, ws, rfl, r1, r2⟩ := r
    by_cases h : m = n
    · subst h
      have e : putI m y (m :: ns) (v :: vs) = (m :: ns, y :: vs) := by simp [putI]
      rw [e]
      refine ⟨u :: ws, ?_, ?_, hl, Nat.le_succ _, hm⟩
      · show (if G.fnm m = G.fnm m then (G.fnm m, u) :: _ else _) = _
        rw [if_pos rfl]
        rfl
      · simp only [RVs]
        exact ⟨u, ws, rfl, ry, r2⟩
    · have e : putI n y (m :: ns) (v :: vs) = (m :: (putI n y ns vs).1, v :: (putI n y ns vs).2) := by simp only [putI, if_neg h]
      have ne : ¬ G.fnm m = G.fnm n := fun z => h (F.inj m n (hm m List.mem_cons_self) hn z)
      obtain ⟨fvs', e1, e2, e3, e4, e5⟩ := put_of F hn ry (fun k hk => hm k (List.mem_cons_of_mem _ hk)) (Nat.succ.inj hl) r2
      rw [e]
      refine ⟨w :: fvs', ?_, ?_, by simp [e3], by simp; exact e4, fun k hk => ?_⟩
      · show (if G.fnm m = G.fnm n then _ else (G.fnm m, w) :: putF (G.fnm n) u ((ns.map G.fnm).zip ws)) = _
        rw [if_neg ne, e1]
        rfl
      · simp only [RVs]
        exact ⟨w, fvs', rfl, r1, e2⟩
      · rcases List.mem_cons.mp hk with z | z
        · rw [z]
          exact hm m List.mem_cons_self
        · exact e5 k z
theorem RVs.atI {xs : List IV} {vs : List V} {i : Int} {x : IV} (r : RVs G lv φ H xs vs) (e : atI xs i = some x) : ∃ v, atI vs i = some v ∧ RV G lv φ H x v := by
  unfold L2.atI at e ⊢
  rw [r.length]
  cases q : ixN xs.length i with
  | none =>
    rw [q] at e
    cases e
  | some j =>
    rw [q] at e
    exact r.get e
theorem RVs.take : ∀ {xs : List IV} {vs : List V} (n : Nat), RVs G lv φ H xs vs → RVs G lv φ H (xs.take n) (vs.take n)
  | _, _, 0, _ => by simp [RVs]
  | [], vs, n + 1, r => by
    simp only [RVs] at r
    subst r
    simp [RVs]
  | x :: xs, vs, n + 1, r => by
    simp only [RVs] at r
    obtain ⟨v, us, rfl, r1, r2⟩ := r
    simp only [List.take_succ_cons, RVs]
    exact ⟨v, us.take n, rfl, r1, RVs.take n r2⟩
theorem RVs.drop : ∀ {xs : List IV} {vs : List V} (n : Nat), RVs G lv φ H xs vs → RVs G lv φ H (xs.drop n) (vs.drop n)
  | _, _, 0, r => r
  | [], vs, n + 1, r => by
    simp only [RVs] at r
    subst r
    simp [RVs]
  | x :: xs, vs, n + 1, r => by
    simp only [RVs] at r
    obtain ⟨v, us, rfl, r1, r2⟩ := r
    exact RVs.drop n r2
end
/-- the items of xs[lo:hi] -/
def cutI (xs : List IV) (lo hi : Option Int) : List IV := (xs.drop (HT.sIx xs.length 0 lo)).take (HT.sIx xs.length xs.length hi - HT.sIx xs.length 0 lo)
section
variable {G : Gx} {lv : Addr → Prop} {φ : List Addr} {H : Hp}
theorem RVs.cut {xs : List IV} {vs : List V} {lo hi : Option Int} (r : RVs G lv φ H xs vs) : RVs G lv φ H (cutI xs lo hi) (cutV vs lo hi) := by
  unfold cutI cutV
  rw [r.length]
  exact (r.drop _).take _
end
section
variable {X : Cx} {G : Gx} {a b c e : Expr} {es : List Expr} {fa fb fc : Mv} {pos : Pos} {fs : Ma}
def mFld (n : Nat) (f : Mv) : Mv := fun env h => (f env h).bind fun x h1 => match view h1 x with
  | .ins c ns vs => .ofO (look n ns vs) h1
  | _ => .bad
theorem s_fld (F : Facts G) (hK : G.K = X.K) {n : Nat} (hn : n < G.nf) (ha : PE X a (rE G fa)) (hb : attributeBase a (G.fnm n) X.env (eval a X.env) = eval a X.env) : PE X (.Attribute a (G.fnm n) pos) (rE G (mFld n fa)) := by
  refine PEimp (pe_fld ha hb) fun σ H Q ⟨O, h, φ, env, R, E, P⟩ => ?_
  refine ⟨O, h, φ, env, R, E, (P.bind (rel := relV G)).mono fun v H1 ⟨x, h1, φ1, _, g1, r1, P1⟩ => ?_⟩
  have w := RW.view g1.rep r1
  cases q : view h1 x with
  | ins c ns vs =>
    rw [q] at w P1
    obtain ⟨p, dx, fvs, rfl, e1, i1, r⟩ := w
    cases e : look n ns vs with
    | none =>
      have P2 : Post (relV G) G O h1 φ1 H1 (.ofO (look n ns vs) h1) Q := P1
      rw [e] at P2
      exact P2.elim
    | some y =>
      have P2 : Post (relV G) G O h1 φ1 H1 (.ofO (look n ns vs) h1) Q := P1
      rw [e] at P2
      obtain ⟨u, e2, r2⟩ := look_of F hn i1.2.2.2 r e
      exact ⟨p, _, dx, _, u, rfl, e1, hK ▸ (F.cls c i1.1).cl, hK ▸ F.noat c n i1.1 hn, e2, P2 φ1 H1 u (Go.refl g1.rep) r2⟩
  | _ =>
    rw [q] at P1
    exact P1.elim
def ixI (x y : IV) : Option IV := match x, y with
  | .lst xs, .int i => atI xs i
  | .tup xs, .int i => atI xs i
  | .str z, .int i => if z.length ≤ sizeLine then (atI z.cps.toList i).map fun c => .str ⟨#[c]⟩ else none
  | _, _ => none
def mIx (fa fb : Mv) : Mv := fun env h => (fa env h).bind fun x h1 => (fb env h1).bind fun y h2 => .ofO (ixI (view h2 x) y) h2
theorem s_ix (hK : G.K = X.K) (ha : PE X a (rE G fa)) (hb : PE X b (rE G fb)) (hs : PlainIx b) : PE X (.Subscript a b pos) (rE G (mIx fa fb)) := by
  refine PEimp (pe_ix ix_seq ha hb hs) fun σ H Q ⟨O, h, φ, env, R, E, P⟩ => ?_
  refine ⟨O, h, φ, env, R, E, (P.bind (rel := relV G)).mono fun v H1 ⟨x, h1, φ1, _, g1, r1, P1⟩ => ?_⟩
  refine ⟨O, h1, φ1, env, g1.rep, E.go R g1, (P1.bind (rel := relV G)).mono fun u H2 ⟨y, h2, φ2, _, g2, r2, P2⟩ => ?_⟩
  have w := RW.view g2.rep (relV.go g1.rep g2 r1)
  cases e : ixI (view h2 x) y with
  | none =>
    rw [e] at P2
    exact P2.elim
  | some c =>
    rw [e] at P2
    cases y with
    | int i =>
      simp only [relV, RV] at r2
      cases q : view h2 x with
      | lst xs =>
        rw [q] at e w
        obtain ⟨p, vs, rfl, hq, r⟩ := w
        obtain ⟨u', e1, e2⟩ := r.atI e
        exact .inl ⟨p, vs, i, u', rfl, r2, SqL.of hq, e1, P2 φ2 H2 u' (Go.refl g2.rep) e2⟩
      | tup xs =>
        rw [q] at e w
        simp only [RW, RV] at w
        obtain ⟨p, vs, rfl, hq, r⟩ := w
        obtain ⟨u', e1, e2⟩ := r.atI e
        exact .inr (.inl ⟨p, vs, i, u', rfl, r2, hK ▸ hq, e1, P2 φ2 H2 u' (Go.refl g2.rep) e2⟩)
      | str z =>
        rw [q] at e w
        simp only [RW, RV] at w
        simp only [ixI] at e
        split at e
        · rename_i hz
          obtain ⟨cc, e1, e2⟩ := Option.map_eq_some_iff.mp e
          subst e2
          exact .inr (.inr ⟨z, i, cc, w, r2, hz, e1, P2 φ2 H2 _ (Go.refl g2.rep) (by simp only [relV, RV])⟩)
        · cases e
      | _ =>
        rw [q] at e
        simp only [ixI] at e
        cases e
    | _ =>
      exfalso
      cases q : view h2 x <;> rw [q] at e <;> simp only [ixI] at e <;> cases e
/-- a cut's ends -/
abbrev Mo := Env → IH → Res (Option Int)
def rO (G : Gx) (f : Mo) : TO := fun σ H Q => ∃ O h φ env, Rep G O h φ H ∧ EnvR G (Lv O h φ) φ H env σ ∧ Post (fun _ _ _ x y => y = x) G O h φ H (f env h) Q
def mNoE : Mo := fun _ h => .ok none h
def mEnd (f : Mv) : Mo := fun env h => (f env h).bind fun x h1 => match x with
  | .int i => .ok (some i) h1
  | _ => .bad
theorem o_none : PO X none (rO G mNoE) := ⟨fun pins s σ H Q I ⟨O, h, φ, env, R, E, P⟩ => po_none.run pins s σ H Q I (P φ H none (Go.refl R) rfl)⟩
theorem o_some (ha : PE X a (rE G fa)) : PO X (some a) (rO G (mEnd fa)) := by
  refine ⟨fun pins s σ H Q I ⟨O, h, φ, env, R, E, P⟩ => (po_some ha).run pins s σ H Q I ?_⟩
  refine ⟨O, h, φ, env, R, E, (P.bind (rel := relV G)).mono fun v H1 ⟨x, h1, φ1, _, g1, r1, P1⟩ => ?_⟩
  cases x with
  | int i =>
    simp only [relV, RV] at r1
    exact ⟨i, r1, P1 φ1 H1 _ (Go.refl g1.rep) rfl⟩
  | _ => exact P1.elim
def slI (x : IV) (lo hi : Option Int) : Option IV := match x with
  | .lst xs => some (.lst (cutI xs lo hi))
  | .rdl xs => some (.lst (cutI xs lo hi))
  | .tup xs => if HT.sIx xs.length 0 lo = 0 ∧ HT.sIx xs.length xs.length hi = xs.length then none else some (.tup (cutI xs lo hi))
  | .str z => if z.length ≤ sizeLine then some (.str (cutS z lo hi)) else none
  | _ => none
def mSl (fa : Mv) (fl fh : Mo) : Mv := fun env h => (fa env h).bind fun x h1 => (fl env h1).bind fun l h2 => (fh env h2).bind fun u h3 => .ofO (slI (view h3 x) l u) h3
def rSlAll (K : PySem.W.Frag) : V → Option Int → Option Int → Hp → VK → Prop := fun x lo hi H Q => rSlL K x lo hi H Q ∨ rSlT K x lo hi H Q ∨ rSlS x lo hi H Q
theorem sl_all : SlR X (rSlAll X.K) := sl_list.or (sl_tup.or sl_str)
theorem s_sl {lo hi : Option Expr} {fl fh : Mo} {p2 : Pos} (hK : G.K = X.K) (ha : PE X a (rE G fa)) (hl : PO X lo (rO G fl)) (hh : PO X hi (rO G fh)) : PE X (.Subscript a (.Slice lo hi none p2) pos) (rE G (mSl fa fl fh)) := by
  refine PEimp (pe_slice sl_all ha hl hh) fun σ H Q ⟨O, h, φ, env, R, E, P⟩ => ?_
  refine ⟨O, h, φ, env, R, E, (P.bind (rel := relV G)).mono fun v H1 ⟨x, h1, φ1, _, g1, r1, P1⟩ => ?_⟩
  refine ⟨O, h1, φ1, env, g1.rep, E.go R g1, (P1.bind (rel := fun _ _ _ x y => y = x)).mono fun l H2 ⟨l', h2, φ2, _, g2, r2, P2⟩ => ?_⟩
  have r2' : l = l' := r2
  subst r2'
  refine ⟨O, h2, φ2, env, g2.rep, (E.go R g1).go g1.rep g2, (P2.bind (rel := fun _ _ _ x y => y = x)).mono fun u H3 ⟨u', h3, φ3, _, g3, r3, P3⟩ => ?_⟩
  have r3' : u = u' := r3
  subst r3'
  have w := RW.view g3.rep (relV.go g2.rep g3 (relV.go g1.rep g2 r1))
  have wn := fun c (e : slI (view h3 x) l u = some c) => wnt_of (Q := Q) g3.rep (by rw [e] at P3; exact P3)
  cases q : view h3 x with
  | lst xs =>
    rw [q] at w wn
    obtain ⟨p, vs, rfl, hq, r⟩ := w
    obtain ⟨ok, fin⟩ := wn _ rfl
    exact .inl ⟨p, vs, rfl, SqL.of hq, fun p' n => fin _ _ (same_upd n) (RV.newL ok n r.cut)⟩
  | rdl xs =>
    rw [q] at w wn
    simp only [RW, RV] at w
    obtain ⟨p, vs, rfl, hq, r⟩ := w
    obtain ⟨ok, fin⟩ := wn _ rfl
    exact .inl ⟨p, vs, rfl, hK ▸ hq.sq, fun p' n => fin _ _ (same_upd n) (RV.newL ok n r.cut)⟩
  | tup xs =>
    rw [q] at w wn
    simp only [RW, RV] at w
    obtain ⟨p, vs, rfl, hq, r⟩ := w
    by_cases hz : HT.sIx xs.length 0 l = 0 ∧ HT.sIx xs.length xs.length u = xs.length
    · rw [q] at P3
      simp only [slI, if_pos hz] at P3
      exact P3.elim
    · obtain ⟨ok, fin⟩ := wn (.tup (cutI xs l u)) (by simp only [slI, if_neg hz])
      exact .inr (.inl ⟨p, vs, rfl, hK ▸ hq, by rw [r.length]; exact hz, fun p' n => fin _ _ (same_upd n) (RV.newT ok n r.cut)⟩)
  | str z =>
    rw [q] at w wn
    simp only [RW, RV] at w
    by_cases hz : z.length ≤ sizeLine
    · obtain ⟨ok, fin⟩ := wn (.str (cutS z l u)) (by simp only [slI, if_pos hz])
      exact .inr (.inr ⟨z, w, hz, fin _ _ (Same.refl _) (by simp only [RV])⟩)
    · rw [q] at P3
      simp only [slI, if_neg hz] at P3
      exact P3.elim
  | _ =>
    rw [q] at P3
    exact P3.elim
end
end Iv

/-! IvH: what loops walk: lists and tuples, alone, counted, side by side. -/
namespace Iv
open PySem PySem.Spec PyProof.Rows L2

/-- a list or a tuple, where it stands -/
inductive Sk where
  | l (a : Addr)
  | t (a : Addr)
def Sk.adr : Sk → Addr
  | .l a => a
  | .t a => a
def SqA (K : PySem.W.Frag) (H : Hp) : Sk → List V → Prop
  | .l a, xs => SqL K H a xs
  | .t a, xs => SqT K H a xs
def ItA (h : Heap) (it : Addr) (i : Nat) : Sk → Prop
  | .l a => h.IsListIter it a i
  | .t a => h.IsTupleIter it a i
def OnA (h : Heap) (its : Array Value) : Sk → Prop
  | .l a => h.IsList a its
  | .t a => h.IsTuple a its
def objA : Sk → Obj
  | .l a => { cls := .type "list_iterator", data := .fields #[.ref a, .int 0 0] }
  | .t a => { cls := .type "tuple_iterator", data := .fields #[.ref a, .int 0 0] }
theorem draws_A {prog : Program} {w : World} {A : Around} (hh : A.handled = none) (it : Addr) (k : Sk) (hne : k.adr ≠ it) (items : Array Value) :
    Draws prog w A it [it, k.adr] items.size (fun i v => items[i]? = some v) (fun i h => ItA h it i k ∧ OnA h items k) := by
  cases k with
  | l a => exact Draws.list hh it a hne items
  | t a => exact Draws.tuple hh it a hne items
theorem begins_A (k : Sk) (items : Array Value) : Begins (.ref k.adr) (objA k) fun h => OnA h items k := by
  cases k with
  | l a => exact begins_list a items
  | t a => exact begins_tuple a items
theorem itA_new {h : Heap} {it : Addr} {k : Sk} (e : h.get? it = some (objA k)) : ItA h it 0 k := by
  cases k with
  | l a => exact ⟨_, e, rfl, rfl⟩
  | t a => exact ⟨_, e, rfl, rfl⟩
theorem itA_obj {h : Heap} {it : Addr} {i : Nat} {k : Sk} (e : ItA h it i k) : ∃ o, h.get? it = some o ∧ ∀ v, o.data ≠ .cell v := by
  cases k with
  | l a =>
    obtain ⟨o, e, c, d⟩ := e
    exact ⟨o, e, fun v z => by rw [d] at z; cases z⟩
  | t a =>
    obtain ⟨o, e, c, d⟩ := e
    exact ⟨o, e, fun v z => by rw [d] at z; cases z⟩
theorem itA_keep {h h' : Heap} {it : Addr} {i : Nat} {k : Sk} (e : ItA h it i k) (q : ∀ o, h.get? it = some o → h'.get? it = some o) : ItA h' it i k := by
  cases k with
  | l a => exact Heap.IsListIter.at e q
  | t a => exact Heap.IsTupleIter.at e q
section
variable {X : Cx} {pins : List (Addr × Obj)} {σ : L2.St} {H : Hp} {s : Shared} {k : Sk} {xs ys : List V}
theorem sqA_on (I : Inv X pins σ H s) (h : SqA X.K H k xs) : ∃ its : List Value, Vals xs its ∧ OnA s.heap its.toArray k := by
  cases k with
  | l a =>
    obtain ⟨its, r, p, _⟩ := I.list h
    exact ⟨its, r, p.isList⟩
  | t a =>
    obtain ⟨its, r, p, _⟩ := I.tuple h
    exact ⟨its, r, p⟩
theorem sqA_inj (I : Inv X pins σ H s) (h : SqA X.K H k xs) (h2 : SqA X.K H k ys) : xs = ys := by
  cases k with
  | l a => exact I.list_inj h h2
  | t a => exact I.tuple_inj h h2
theorem onA_lt {h : Heap} {its : Array Value} (o : OnA h its k) : k.adr < h.objs.size := by
  cases k with
  | l a =>
    obtain ⟨_, e, _⟩ := o
    exact Heap.lt_size e
  | t a =>
    obtain ⟨_, e, _⟩ := o
    exact Heap.lt_size e
end
/-- each item in a new pair with its count -/
def IteA (K : PySem.W.Frag) (k : Sk) : It :=
  ⟨fun i H => ∃ (xs : List V) (x : V), SqA K H k xs ∧ xs[i]? = some x, fun i H v H' => ∃ T x, v = .ref T ∧ H T = none ∧ H' = upd H T (.tup [.int (i : Nat), x]) ∧ ∀ xs, SqA K H k xs → xs[i]? = some x, fun i H => ∃ xs : List V, SqA K H k xs ∧ xs.length = i⟩
theorem turn_enumA {P : Program} {w : World} {K : PySem.W.Frag} {elts : List Expr} {kk : Nat} {tpos : Pos} (k : Sk) (e it : Addr) :
    Turn P w K (.Tuple elts kk tpos) (IteA K k) [e, it] e (fun i h => (∃ old, IsEnum h e it (0 + (i : Int)) old) ∧ ItA h it i k ∧ e ≠ it ∧ k.adr ≠ e ∧ k.adr ≠ it) where
  mem := by simp
  obj := fun i h st b hb => by
    obtain ⟨⟨old, he⟩, hi, _⟩ := st
    have e' : b = e ∨ b = it := by simpa using hb
    rcases e' with z | z
    · rw [z]; exact ⟨_, he, fun v q => nomatch q⟩
    · rw [z]; exact itA_obj hi
  keep := fun i h h' st q => let ⟨⟨old, he⟩, hi, hne⟩ := st; ⟨⟨old, q e (by simp) _ he⟩, itA_keep hi fun o z => q it (by simp) o z, hne⟩
  item := by
    intro X hP hw hK hc i pins s σ H E I hf st hg
    subst hP hw hK
    obtain ⟨he, hi, hne, n1, n2⟩ := st
    obtain ⟨xs, x, hq, hx⟩ := hg
    obtain ⟨its, rv, on⟩ := sqA_on I hq
    obtain ⟨u, hu, ru⟩ := rv.get hx
    have hl := rv.length
    have W := GoesN.enumFrom (elts := elts) (x1 := kk) (pos := tpos) 0 (draws_A (prog := X.prog) (w := X.w) (A := X.A.in1) (I.ok.hd hc) it k n2 its.toArray) e hne (by simp [hne, n1.symm]) (by simp)
    have hlt : i < its.toArray.size := by
      have := (List.getElem?_eq_some_iff.mp hx).1
      simp; omega
    refine W.goes i s _ _ hlt ⟨he, hi, on⟩ fun v h' tk hY st' hk htk => ?_
    obtain ⟨T, t, x', rfl, hT, hx', hTup⟩ := hY
    have ex : x' = u := by
      rw [show its.toArray[i]? = some u by simpa using hu] at hx'
      exact (Option.some.inj hx').symm
    subst ex
    have new : ObjOk X.prog X.w (upd H T (.tup [.int (i : Nat), x])) h' T (.tup [.int (i : Nat), x]) :=
      ⟨by show 2 ≤ sizeLine; decide, [.int (0 + (i : Int)) t, x'], .cons ⟨t, by rw [Int.zero_add]⟩ (.cons ru .nil), hTup⟩
    have I1 := I.turnedNew (t' := tk) (ch := [e, it]) (fun b ob hb q => hk b ob hb q) hf hT new
    refine ⟨.ref T, _, I1, rfl, ⟨T, x, rfl, I.hok.fresh hT, rfl, fun ys hy => by rw [sqA_inj I hy hq]; exact hx⟩, ⟨st'.1, st'.2.1, hne, n1, n2⟩, fun b hb => ?_⟩
    rw [upd_ne ?_]
    · exact (hf b hb).1
    · obtain ⟨old, he⟩ := he
      have hel : e < s.heap.objs.size := Heap.lt_size he
      have hil : it < s.heap.objs.size := by
        obtain ⟨o, q, _⟩ := itA_obj hi
        exact Heap.lt_size q
      have e' : b = e ∨ b = it := by simpa using hb
      rcases e' with z | z
      · rw [z]; exact Nat.ne_of_lt (Nat.lt_of_lt_of_le hel hT)
      · rw [z]; exact Nat.ne_of_lt (Nat.lt_of_lt_of_le hil hT)
  done := by
    intro X hP hw hK hc i pins s σ H E I hf st hg
    subst hP hw hK
    obtain ⟨he, hi, hne, n1, n2⟩ := st
    obtain ⟨xs, hq, hx⟩ := hg
    obtain ⟨its, rv, on⟩ := sqA_on I hq
    have hl := rv.length
    have W := GoesN.enumFrom (elts := elts) (x1 := kk) (pos := tpos) 0 (draws_A (prog := X.prog) (w := X.w) (A := X.A.in1) (I.ok.hd hc) it k n2 its.toArray) e hne (by simp [hne, n1.symm]) (by simp)
    have ez : its.toArray.size = i := by simp; omega
    refine W.stops s _ _ (by rw [ez]; exact ⟨he, hi, on⟩) fun h' tk hk htk => ?_
    exact I.turnedL (t' := tk) (ch := [e, it]) (fun b o hb q => hk b o hb q) hf
  self := fun A i s Q E st h => let ⟨⟨_, he⟩, _⟩ := st; wpAny_pyIter_enum he h

theorem meets_enum1 {v : Value} {o : Obj} {H : Heap → Prop} (B : Begins v o H) :
    Meets (Builtin.«enumerate.__new__» ⟨[.type "enumerate", v], []⟩) (fun _ R s => H s.heap ∧
      R (.ok (.ret (.ref (s.heap.push o).objs.size))) { s with heap := (s.heap.push o).push { cls := .type "enumerate", data := .fields #[.none, .bool false, .ref s.heap.objs.size, rawInt 0, .none, .none] } }) :=
  .of_wp fun prog w A R s h => by
    obtain ⟨hp, g, d, tk, os⟩ := s; obtain ⟨h1, h⟩ := h
    have hsub := sub_enumerate
    have q1 : ∀ {A' : Around} {E : Value → Shared → Prop} {Q : Value → Shared → Prop}, Q (.ref hp.objs.size) ⟨hp.push o, g, d, tk, os⟩ → wpAny (model prog w) A' (pyIter v) Q E ⟨hp, g, d, tk, os⟩ :=
      fun q => B.iter prog w _ _ ⟨hp, g, d, tk, os⟩ _ h1 q
    wp_walk using q1
    refine wpAny_stack_any fun st => wpAny_pure ?_
    split
    · rename_i c _ _ _ _ _
      cases (c == Value.type "enumerate")
      · wp_walk using q1
        exact ⟨_, rfl, h⟩
      · wp_walk using q1
        exact ⟨_, rfl, h⟩
    · wp_walk using q1
      exact ⟨_, rfl, h⟩
theorem enum_begins1 {prog : Program} {w : World} {A : Around} {E : Value → Shared → Prop} {s : Shared} {v : Value} {o : Obj} {H : Heap → Prop} {Q : Value → Shared → Prop} (B : Begins v o H) (h1 : H s.heap)
    (h : ∀ h', IsEnum h' (s.heap.objs.size + 1) s.heap.objs.size 0 .none → h'.get? s.heap.objs.size = some o →
      (∀ b o, s.heap.get? b = some o → h'.get? b = some o) → Q (.ref (s.heap.objs.size + 1)) { s with heap := h' }) :
    wpAny (model prog w) A (call (.type "enumerate") [v]) Q E s := by
  refine callType_new F.called_enumerate (by decide) (F.typeCall_enumerate_1 _) (F.newCall_enumerate_1 _) (fun obj => F.args_object_init_2 obj _) F.entry_enumerate_new (meets_enum1 B) ⟨h1, ?_⟩
  have hz : (s.heap.push o).objs.size = s.heap.objs.size + 1 := Heap.size_push ..
  show _ ∧ _
  rw [hz]
  have he : IsEnum ((s.heap.push o).push { cls := .type "enumerate", data := .fields #[.none, .bool false, .ref s.heap.objs.size, rawInt 0, .none, .none] }) (s.heap.objs.size + 1) s.heap.objs.size 0 .none := by
    have := Heap.get?_push_size (s.heap.push o) (o := { cls := .type "enumerate", data := .fields #[.none, .bool false, .ref s.heap.objs.size, rawInt 0, .none, .none] }) rfl
    rw [hz] at this; exact this
  exact ⟨⟨_, he, rfl⟩, h _ he (Heap.get?_push_of_some _ (Heap.get?_push_size _ B.free)) fun b o x => Heap.get?_push_of_some _ (Heap.get?_push_of_some _ x)⟩
def iEnumA (K : PySem.W.Frag) (ta : TA) : TI := fun σ H R => ta σ H fun vs H1 => ∃ k xs, vs = [.ref (Sk.adr k)] ∧ SqA K H1 k xs ∧ R (IteA K k) H1
theorem pi_enumA {X : Cx} {e : Expr} {ta : TA} {p pos tpos : Pos} {elts : List Expr} {kk : Nat} (hg : Gl X "enumerate") (hm : X.mg "enumerate" = none) (ha : PA X [e] ta) (hs : starEach [e] X.env = [(false, eval e X.env)] := by rfl) :
    PI X (.Tuple elts kk tpos) (.Call (.Name "enumerate" p) [e] [] pos) (iEnumA X.K ta) := by
  refine ⟨fun pins s σ H R I h => ?_⟩
  refine Call_ (ld_blt I hg hm boot_enumerate (PyProof.Rows.callWith_type1 (thn (ha.run pos pins s σ H _ I h) fun us s1 ⟨vs, H1, I1, r1, q1⟩ => ?_) hs rfl))
  obtain ⟨k, xs, ex, hq, q⟩ := q1
  subst ex
  cases r1 with
  | cons r rr =>
    cases rr
    cases r
    obtain ⟨its, rv, on⟩ := sqA_on I1 hq
    refine enum_begins1 (begins_A k its.toArray) on fun h' he hit hk => wpAny_pyIter_enum he ?_
    have I2 : Inv X pins σ H1 { s1 with heap := h' } := I1.kept (t' := s1.toks) hk
    have lt := onA_lt on
    refine ⟨s1.heap.objs.size + 1, [s1.heap.objs.size + 1, s1.heap.objs.size], _, _, H1, rfl, I2, turn_enumA k (s1.heap.objs.size + 1) s1.heap.objs.size, ⟨⟨.none, he⟩, itA_new hit, Nat.succ_ne_self _, Nat.ne_of_lt (Nat.lt_succ_of_lt lt), Nat.ne_of_lt lt⟩, fun b hb => ?_, q⟩
    have e' : b = s1.heap.objs.size + 1 ∨ b = s1.heap.objs.size := by simpa using hb
    have hle : s1.heap.objs.size ≤ b := by
      rcases e' with z | z
      · rw [z]; exact Nat.le_add_right _ _
      · rw [z]; exact Nat.le_refl _
    exact I1.fpOk hle (I1.hok.fresh hle)
end Iv

/-! IvI: zip of two and of three, lists and tuples mixed. -/
namespace Iv
open PySem PySem.Spec PyProof.Rows L2

/-- 2 side by side, the items in a new tuple -/
def Itz2 (K : PySem.W.Frag) (k1 k2 : Sk) : It :=
  ⟨fun i H => ∃ (xs1 xs2 : List V) (x1 x2 : V), SqA K H k1 xs1 ∧ xs1[i]? = some x1 ∧ SqA K H k2 xs2 ∧ xs2[i]? = some x2,
    fun i H v H' => ∃ T x1 x2, v = .ref T ∧ H T = none ∧ H' = upd H T (.tup [x1, x2]) ∧ (∀ xs, SqA K H k1 xs → xs[i]? = some x1) ∧ (∀ xs, SqA K H k2 xs → xs[i]? = some x2),
    fun i H => ∃ xs1 xs2 : List V, SqA K H k1 xs1 ∧ SqA K H k2 xs2 ∧ min xs1.length xs2.length = i⟩
structure Zok2 (z TI TO i1 i2 : Addr) (k1 k2 : Sk) : Prop where
  sep : ZipSep2 z TI TO i1 i2 [i1, k1.adr] [i2, k2.adr]
  ne : k1.adr ≠ i1 ∧ k2.adr ≠ i2
theorem turn_zip2A {P : Program} {w : World} {K : PySem.W.Frag} {elts : List Expr} {kk : Nat} {tpos : Pos} {z TI TO i1 i2 : Addr} (k1 k2 : Sk) (D : Zok2 z TI TO i1 i2 k1 k2) :
    Turn P w K (.Tuple elts kk tpos) (Itz2 K k1 k2) [z, TI, TO, i1, i2] z (fun i h => IsZip h z TI TO .none ∧ IsTupOf2 h TI (.ref i1) (.ref i2) ∧ (∃ a1 a2, IsTupOf2 h TO a1 a2) ∧ ItA h i1 i k1 ∧ ItA h i2 i k2) where
  mem := by simp
  obj := fun i h st c hc => by
    obtain ⟨hz, hTI, ⟨a1, a2, hTO⟩, h1, h2⟩ := st
    have e' : c = z ∨ c = TI ∨ c = TO ∨ c = i1 ∨ c = i2 := by simpa using hc
    rcases e' with q | q | q | q | q
    · rw [q]; exact ⟨_, hz, fun v q => nomatch q⟩
    · rw [q]; exact ⟨_, hTI, fun v q => nomatch q⟩
    · rw [q]; exact ⟨_, hTO, fun v q => nomatch q⟩
    · rw [q]; exact itA_obj h1
    · rw [q]; exact itA_obj h2
  keep := fun i h h' st k => by
    obtain ⟨hz, hTI, ⟨a1, a2, hTO⟩, h1, h2⟩ := st
    exact ⟨k z (by simp) _ hz, k TI (by simp) _ hTI, ⟨a1, a2, k TO (by simp) _ hTO⟩, itA_keep h1 fun o q => k i1 (by simp) o q, itA_keep h2 fun o q => k i2 (by simp) o q⟩
  item := by
    intro X hP hw hK hc i pins s σ H E I hf st hg
    subst hP hw hK
    obtain ⟨hz, hTI, hTO, h1, h2⟩ := st
    obtain ⟨xs1, xs2, x1, x2, q1, e1, q2, e2⟩ := hg
    obtain ⟨its1, rv1, on1⟩ := sqA_on I q1
    obtain ⟨u1, hu1, ru1⟩ := rv1.get e1
    have l1 := rv1.length
    have b1 := (List.getElem?_eq_some_iff.mp e1).1
    obtain ⟨its2, rv2, on2⟩ := sqA_on I q2
    obtain ⟨u2, hu2, ru2⟩ := rv2.get e2
    have l2 := rv2.length
    have b2 := (List.getElem?_eq_some_iff.mp e2).1
    have W := GoesN.zip2 (elts := elts) (x1 := kk) (pos := tpos) D.sep (draws_A (prog := X.prog) (w := X.w) (A := X.A.in1) (I.ok.hd hc) i1 k1 D.ne.1 its1.toArray) (draws_A (prog := X.prog) (w := X.w) (A := X.A.in1) (I.ok.hd hc) i2 k2 D.ne.2 its2.toArray)
    refine W.goes i s _ _ (by simp; omega) ⟨hz, hTI, hTO, ⟨h1, on1⟩, ⟨h2, on2⟩⟩ fun v h' tk hY st' hk htk => ?_
    obtain ⟨T, y1, y2, rfl, hT, f1, f2, hTup⟩ := hY
    have g1 : y1 = u1 := by
      rw [show its1.toArray[i]? = some u1 by simpa using hu1] at f1
      exact (Option.some.inj f1).symm
    subst g1
    have g2 : y2 = u2 := by
      rw [show its2.toArray[i]? = some u2 by simpa using hu2] at f2
      exact (Option.some.inj f2).symm
    subst g2
    have new : ObjOk X.prog X.w (upd H T (.tup [x1, x2])) h' T (.tup [x1, x2]) := ⟨by show 2 ≤ sizeLine; decide, [y1, y2], .cons ru1 (.cons ru2 (.nil)), hTup⟩
    have wr : ∀ c, c ∉ [z, TI, TO, i1, i2] → c ∉ [z, TO, i1, i2] := fun c hc hm => hc (by
      simp only [List.mem_cons, List.not_mem_nil, or_false] at hm ⊢
      rcases hm with q | q | q | q <;> simp [q])
    have I1 := I.turnedNew (t' := tk) (ch := [z, TI, TO, i1, i2]) (fun b ob hb q => hk b ob (wr b hb) q) hf hT new
    refine ⟨.ref T, _, I1, rfl, ⟨T, x1, x2, rfl, I.hok.fresh hT, rfl, fun l hl => by rw [sqA_inj I hl q1]; exact e1, fun l hl => by rw [sqA_inj I hl q2]; exact e2⟩, ⟨st'.1, st'.2.1, st'.2.2.1, st'.2.2.2.1.1, st'.2.2.2.2.1⟩, fun c hcm => ?_⟩
    rw [upd_ne ?_]
    · exact (hf c hcm).1
    · refine Nat.ne_of_lt (Nat.lt_of_lt_of_le ?_ hT)
      obtain ⟨a1, a2, hTO⟩ := hTO
      have e' : c = z ∨ c = TI ∨ c = TO ∨ c = i1 ∨ c = i2 := by simpa using hcm
      rcases e' with q | q | q | q | q
      · rw [q]; exact Heap.lt_size hz
      · rw [q]; exact Heap.lt_size hTI
      · rw [q]; exact Heap.lt_size hTO
      · rw [q]; obtain ⟨_, e, _⟩ := itA_obj h1; exact Heap.lt_size e
      · rw [q]; obtain ⟨_, e, _⟩ := itA_obj h2; exact Heap.lt_size e
  done := by
    intro X hP hw hK hc i pins s σ H E I hf st hg
    subst hP hw hK
    obtain ⟨hz, hTI, hTO, h1, h2⟩ := st
    obtain ⟨xs1, xs2, q1, q2, hend⟩ := hg
    obtain ⟨its1, rv1, on1⟩ := sqA_on I q1
    have l1 := rv1.length
    obtain ⟨its2, rv2, on2⟩ := sqA_on I q2
    have l2 := rv2.length
    have W := GoesN.zip2 (elts := elts) (x1 := kk) (pos := tpos) D.sep (draws_A (prog := X.prog) (w := X.w) (A := X.A.in1) (I.ok.hd hc) i1 k1 D.ne.1 its1.toArray) (draws_A (prog := X.prog) (w := X.w) (A := X.A.in1) (I.ok.hd hc) i2 k2 D.ne.2 its2.toArray)
    have ez : min its1.toArray.size its2.toArray.size = i := by simp; omega
    refine W.stops s _ _ (by rw [ez]; exact ⟨hz, hTI, hTO, ⟨h1, on1⟩, ⟨h2, on2⟩⟩) fun h' tk hk htk => ?_
    have wr : ∀ c, c ∉ [z, TI, TO, i1, i2] → c ∉ [z, TO, i1, i2] := fun c hc hm => hc (by
      simp only [List.mem_cons, List.not_mem_nil, or_false] at hm ⊢
      rcases hm with q | q | q | q <;> simp [q])
    exact I.turnedL (t' := tk) (ch := [z, TI, TO, i1, i2]) (fun b o hb q => hk b o (wr b hb) q) hf
  self := fun A i s Q E st h => wpAny_pyIter_zip st.1 h
def iZip2 (K : PySem.W.Frag) (ta : TA) : TI := fun σ H R => ta σ H fun vs H1 => ∃ k1 k2 xs1 xs2, vs = [.ref (Sk.adr k1), .ref (Sk.adr k2)] ∧ SqA K H1 k1 xs1 ∧ SqA K H1 k2 xs2 ∧ R (Itz2 K k1 k2) H1
theorem pi_zip2 {X : Cx} {e e2 : Expr} {ta : TA} {p pos tpos : Pos} {elts : List Expr} {kk : Nat} (hg : Gl X "zip") (hm : X.mg "zip" = none) (ha : PA X [e, e2] ta)
    (hs : starEach [e, e2] X.env = (false, eval e X.env) :: starEach [e2] X.env := by rfl) (hpl : (backTo pos (starEach [e2] X.env)).any (·.1) = false := by rfl) :
    PI X (.Tuple elts kk tpos) (.Call (.Name "zip" p) [e, e2] [] pos) (iZip2 X.K ta) := by
  refine ⟨fun pins s σ H R I h => ?_⟩
  refine Call_ (ld_blt I hg hm PyProof.Rows.boot_zip (PyProof.Rows.callWith_type1 (thn (ha.run pos pins s σ H _ I h) fun us s1 ⟨vs, H1, I1, r1, q1⟩ => ?_) hs hpl))
  obtain ⟨k1, k2, xs1, xs2, ex, hq1, hq2, q⟩ := q1
  subst ex
  obtain ⟨its1, rv1, on1⟩ := sqA_on I1 hq1
  have lt1 := onA_lt on1
  obtain ⟨its2, rv2, on2⟩ := sqA_on I1 hq2
  have lt2 := onA_lt on2
  have ev : us = [.ref k1.adr, .ref k2.adr] := by
    cases r1 with
    | cons s1 t1 =>
      cases s1
      cases t1 with
      | cons s2 t2 =>
        cases s2
        cases t2
        rfl
  subst ev
  refine zip_begins2 (begins_A k1 its1.toArray) (begins_A k2 its2.toArray) on1 on2 fun h' hz hTI hTO h1 h2 hsz hk => wpAny_pyIter_zip hz ?_
  have I2 : Inv X pins σ H1 { s1 with heap := h' } := I1.kept (t' := s1.toks) hk
  have D : Zok2 (s1.heap.objs.size + 4) (s1.heap.objs.size + 2) (s1.heap.objs.size + 3) (s1.heap.objs.size) (s1.heap.objs.size + 1) k1 k2 := ⟨zip_sep2 (fp1 := [k1.adr])  (fp2 := [k2.adr]) (fun b hb => by rw [List.mem_singleton.mp hb]; exact lt1) (fun b hb => by rw [List.mem_singleton.mp hb]; exact lt2), Nat.ne_of_lt lt1, Nat.ne_of_lt (Nat.lt_of_lt_of_le lt2 (Nat.le_add_right _ _))⟩
  refine ⟨s1.heap.objs.size + 4, [s1.heap.objs.size + 4, s1.heap.objs.size + 2, s1.heap.objs.size + 3, s1.heap.objs.size, s1.heap.objs.size + 1], _, _, H1, rfl, I2, turn_zip2A k1 k2 D, ⟨hz, hTI, ⟨_, _, hTO⟩, itA_new h1, itA_new h2⟩, fun c hcm => ?_, q⟩
  have hle : s1.heap.objs.size ≤ c := by
    simp only [List.mem_cons, List.not_mem_nil, or_false] at hcm
    rcases hcm with z | z | z | z | z
    · rw [z]; exact Nat.le_add_right _ _
    · rw [z]; exact Nat.le_add_right _ _
    · rw [z]; exact Nat.le_add_right _ _
    · rw [z]; exact Nat.le_refl _
    · rw [z]; exact Nat.le_add_right _ _
  exact I1.fpOk hle (I1.hok.fresh hle)

/-- 3 side by side, the items in a new tuple -/
def Itz3 (K : PySem.W.Frag) (k1 k2 k3 : Sk) : It :=
  ⟨fun i H => ∃ (xs1 xs2 xs3 : List V) (x1 x2 x3 : V), SqA K H k1 xs1 ∧ xs1[i]? = some x1 ∧ SqA K H k2 xs2 ∧ xs2[i]? = some x2 ∧ SqA K H k3 xs3 ∧ xs3[i]? = some x3,
    fun i H v H' => ∃ T x1 x2 x3, v = .ref T ∧ H T = none ∧ H' = upd H T (.tup [x1, x2, x3]) ∧ (∀ xs, SqA K H k1 xs → xs[i]? = some x1) ∧ (∀ xs, SqA K H k2 xs → xs[i]? = some x2) ∧ (∀ xs, SqA K H k3 xs → xs[i]? = some x3),
    fun i H => ∃ xs1 xs2 xs3 : List V, SqA K H k1 xs1 ∧ SqA K H k2 xs2 ∧ SqA K H k3 xs3 ∧ min (min xs1.length xs2.length) xs3.length = i⟩
structure Zok3 (z TI TO i1 i2 i3 : Addr) (k1 k2 k3 : Sk) : Prop where
  sep : ZipSep3 z TI TO i1 i2 i3 [i1, k1.adr] [i2, k2.adr] [i3, k3.adr]
  ne : k1.adr ≠ i1 ∧ k2.adr ≠ i2 ∧ k3.adr ≠ i3
theorem turn_zip3A {P : Program} {w : World} {K : PySem.W.Frag} {elts : List Expr} {kk : Nat} {tpos : Pos} {z TI TO i1 i2 i3 : Addr} (k1 k2 k3 : Sk) (D : Zok3 z TI TO i1 i2 i3 k1 k2 k3) :
    Turn P w K (.Tuple elts kk tpos) (Itz3 K k1 k2 k3) [z, TI, TO, i1, i2, i3] z (fun i h => IsZip h z TI TO .none ∧ IsTupOf3 h TI (.ref i1) (.ref i2) (.ref i3) ∧ (∃ a1 a2 a3, IsTupOf3 h TO a1 a2 a3) ∧ ItA h i1 i k1 ∧ ItA h i2 i k2 ∧ ItA h i3 i k3) where
  mem := by simp
  obj := fun i h st c hc => by
    obtain ⟨hz, hTI, ⟨a1, a2, a3, hTO⟩, h1, h2, h3⟩ := st
    have e' : c = z ∨ c = TI ∨ c = TO ∨ c = i1 ∨ c = i2 ∨ c = i3 := by simpa using hc
    rcases e' with q | q | q | q | q | q
    · rw [q]; exact ⟨_, hz, fun v q => nomatch q⟩
    · rw [q]; exact ⟨_, hTI, fun v q => nomatch q⟩
    · rw [q]; exact ⟨_, hTO, fun v q => nomatch q⟩
    · rw [q]; exact itA_obj h1
    · rw [q]; exact itA_obj h2
    · rw [q]; exact itA_obj h3
  keep := fun i h h' st k => by
    obtain ⟨hz, hTI, ⟨a1, a2, a3, hTO⟩, h1, h2, h3⟩ := st
    exact ⟨k z (by simp) _ hz, k TI (by simp) _ hTI, ⟨a1, a2, a3, k TO (by simp) _ hTO⟩, itA_keep h1 fun o q => k i1 (by simp) o q, itA_keep h2 fun o q => k i2 (by simp) o q, itA_keep h3 fun o q => k i3 (by simp) o q⟩
  item := by
    intro X hP hw hK hc i pins s σ H E I hf st hg
    subst hP hw hK
    obtain ⟨hz, hTI, hTO, h1, h2, h3⟩ := st
    obtain ⟨xs1, xs2, xs3, x1, x2, x3, q1, e1, q2, e2, q3, e3⟩ := hg
    obtain ⟨its1, rv1, on1⟩ := sqA_on I q1
    obtain ⟨u1, hu1, ru1⟩ := rv1.get e1
    have l1 := rv1.length
    have b1 := (List.getElem?_eq_some_iff.mp e1).1
    obtain ⟨its2, rv2, on2⟩ := sqA_on I q2
    obtain ⟨u2, hu2, ru2⟩ := rv2.get e2
    have l2 := rv2.length
    have b2 := (List.getElem?_eq_some_iff.mp e2).1
    obtain ⟨its3, rv3, on3⟩ := sqA_on I q3
    obtain ⟨u3, hu3, ru3⟩ := rv3.get e3
    have l3 := rv3.length
    have b3 := (List.getElem?_eq_some_iff.mp e3).1
    have W := GoesN.zip3 (elts := elts) (x1 := kk) (pos := tpos) D.sep (draws_A (prog := X.prog) (w := X.w) (A := X.A.in1) (I.ok.hd hc) i1 k1 D.ne.1 its1.toArray) (draws_A (prog := X.prog) (w := X.w) (A := X.A.in1) (I.ok.hd hc) i2 k2 D.ne.2.1 its2.toArray) (draws_A (prog := X.prog) (w := X.w) (A := X.A.in1) (I.ok.hd hc) i3 k3 D.ne.2.2 its3.toArray)
    refine W.goes i s _ _ (by simp; omega) ⟨hz, hTI, hTO, ⟨h1, on1⟩, ⟨h2, on2⟩, ⟨h3, on3⟩⟩ fun v h' tk hY st' hk htk => ?_
    obtain ⟨T, y1, y2, y3, rfl, hT, f1, f2, f3, hTup⟩ := hY
    have g1 : y1 = u1 := by
      rw [show its1.toArray[i]? = some u1 by simpa using hu1] at f1
      exact (Option.some.inj f1).symm
    subst g1
    have g2 : y2 = u2 := by
      rw [show its2.toArray[i]? = some u2 by simpa using hu2] at f2
      exact (Option.some.inj f2).symm
    subst g2
    have g3 : y3 = u3 := by
      rw [show its3.toArray[i]? = some u3 by simpa using hu3] at f3
      exact (Option.some.inj f3).symm
    subst g3
    have new : ObjOk X.prog X.w (upd H T (.tup [x1, x2, x3])) h' T (.tup [x1, x2, x3]) := ⟨by show 3 ≤ sizeLine; decide, [y1, y2, y3], .cons ru1 (.cons ru2 (.cons ru3 (.nil))), hTup⟩
    have wr : ∀ c, c ∉ [z, TI, TO, i1, i2, i3] → c ∉ [z, TO, i1, i2, i3] := fun c hc hm => hc (by
      simp only [List.mem_cons, List.not_mem_nil, or_false] at hm ⊢
      rcases hm with q | q | q | q | q <;> simp [q])
    have I1 := I.turnedNew (t' := tk) (ch := [z, TI, TO, i1, i2, i3]) (fun b ob hb q => hk b ob (wr b hb) q) hf hT new
    refine ⟨.ref T, _, I1, rfl, ⟨T, x1, x2, x3, rfl, I.hok.fresh hT, rfl, fun l hl => by rw [sqA_inj I hl q1]; exact e1, fun l hl => by rw [sqA_inj I hl q2]; exact e2, fun l hl => by rw [sqA_inj I hl q3]; exact e3⟩, ⟨st'.1, st'.2.1, st'.2.2.1, st'.2.2.2.1.1, st'.2.2.2.2.1.1, st'.2.2.2.2.2.1⟩, fun c hcm => ?_⟩
    rw [upd_ne ?_]
    · exact (hf c hcm).1
    · refine Nat.ne_of_lt (Nat.lt_of_lt_of_le ?_ hT)
      obtain ⟨a1, a2, a3, hTO⟩ := hTO
      have e' : c = z ∨ c = TI ∨ c = TO ∨ c = i1 ∨ c = i2 ∨ c = i3 := by simpa using hcm
      rcases e' with q | q | q | q | q | q
      · rw [q]; exact Heap.lt_size hz
      · rw [q]; exact Heap.lt_size hTI
      · rw [q]; exact Heap.lt_size hTO
      · rw [q]; obtain ⟨_, e, _⟩ := itA_obj h1; exact Heap.lt_size e
      · rw [q]; obtain ⟨_, e, _⟩ := itA_obj h2; exact Heap.lt_size e
      · rw [q]; obtain ⟨_, e, _⟩ := itA_obj h3; exact Heap.lt_size e
  done := by
    intro X hP hw hK hc i pins s σ H E I hf st hg
    subst hP hw hK
    obtain ⟨hz, hTI, hTO, h1, h2, h3⟩ := st
    obtain ⟨xs1, xs2, xs3, q1, q2, q3, hend⟩ := hg
    obtain ⟨its1, rv1, on1⟩ := sqA_on I q1
    have l1 := rv1.length
    obtain ⟨its2, rv2, on2⟩ := sqA_on I q2
    have l2 := rv2.length
    obtain ⟨its3, rv3, on3⟩ := sqA_on I q3
    have l3 := rv3.length
    have W := GoesN.zip3 (elts := elts) (x1 := kk) (pos := tpos) D.sep (draws_A (prog := X.prog) (w := X.w) (A := X.A.in1) (I.ok.hd hc) i1 k1 D.ne.1 its1.toArray) (draws_A (prog := X.prog) (w := X.w) (A := X.A.in1) (I.ok.hd hc) i2 k2 D.ne.2.1 its2.toArray) (draws_A (prog := X.prog) (w := X.w) (A := X.A.in1) (I.ok.hd hc) i3 k3 D.ne.2.2 its3.toArray)
    have ez : min (min its1.toArray.size its2.toArray.size) its3.toArray.size = i := by simp; omega
    refine W.stops s _ _ (by rw [ez]; exact ⟨hz, hTI, hTO, ⟨h1, on1⟩, ⟨h2, on2⟩, ⟨h3, on3⟩⟩) fun h' tk hk htk => ?_
    have wr : ∀ c, c ∉ [z, TI, TO, i1, i2, i3] → c ∉ [z, TO, i1, i2, i3] := fun c hc hm => hc (by
      simp only [List.mem_cons, List.not_mem_nil, or_false] at hm ⊢
      rcases hm with q | q | q | q | q <;> simp [q])
    exact I.turnedL (t' := tk) (ch := [z, TI, TO, i1, i2, i3]) (fun b o hb q => hk b o (wr b hb) q) hf
  self := fun A i s Q E st h => wpAny_pyIter_zip st.1 h
def iZip3 (K : PySem.W.Frag) (ta : TA) : TI := fun σ H R => ta σ H fun vs H1 => ∃ k1 k2 k3 xs1 xs2 xs3, vs = [.ref (Sk.adr k1), .ref (Sk.adr k2), .ref (Sk.adr k3)] ∧ SqA K H1 k1 xs1 ∧ SqA K H1 k2 xs2 ∧ SqA K H1 k3 xs3 ∧ R (Itz3 K k1 k2 k3) H1
theorem pi_zip3 {X : Cx} {e e2 e3 : Expr} {ta : TA} {p pos tpos : Pos} {elts : List Expr} {kk : Nat} (hg : Gl X "zip") (hm : X.mg "zip" = none) (ha : PA X [e, e2, e3] ta)
    (hs : starEach [e, e2, e3] X.env = (false, eval e X.env) :: starEach [e2, e3] X.env := by rfl) (hpl : (backTo pos (starEach [e2, e3] X.env)).any (·.1) = false := by rfl) :
    PI X (.Tuple elts kk tpos) (.Call (.Name "zip" p) [e, e2, e3] [] pos) (iZip3 X.K ta) := by
  refine ⟨fun pins s σ H R I h => ?_⟩
  refine Call_ (ld_blt I hg hm PyProof.Rows.boot_zip (PyProof.Rows.callWith_type1 (thn (ha.run pos pins s σ H _ I h) fun us s1 ⟨vs, H1, I1, r1, q1⟩ => ?_) hs hpl))
  obtain ⟨k1, k2, k3, xs1, xs2, xs3, ex, hq1, hq2, hq3, q⟩ := q1
  subst ex
  obtain ⟨its1, rv1, on1⟩ := sqA_on I1 hq1
  have lt1 := onA_lt on1
  obtain ⟨its2, rv2, on2⟩ := sqA_on I1 hq2
  have lt2 := onA_lt on2
  obtain ⟨its3, rv3, on3⟩ := sqA_on I1 hq3
  have lt3 := onA_lt on3
  have ev : us = [.ref k1.adr, .ref k2.adr, .ref k3.adr] := by
    cases r1 with
    | cons s1 t1 =>
      cases s1
      cases t1 with
      | cons s2 t2 =>
        cases s2
        cases t2 with
        | cons s3 t3 =>
          cases s3
          cases t3
          rfl
  subst ev
  refine zip_begins3 (begins_A k1 its1.toArray) (begins_A k2 its2.toArray) (begins_A k3 its3.toArray) on1 on2 on3 fun h' hz hTI hTO h1 h2 h3 hsz hk => wpAny_pyIter_zip hz ?_
  have I2 : Inv X pins σ H1 { s1 with heap := h' } := I1.kept (t' := s1.toks) hk
  have D : Zok3 (s1.heap.objs.size + 5) (s1.heap.objs.size + 3) (s1.heap.objs.size + 4) (s1.heap.objs.size) (s1.heap.objs.size + 1) (s1.heap.objs.size + 2) k1 k2 k3 := ⟨zip_sep3 (fp1 := [k1.adr])  (fp2 := [k2.adr])  (fp3 := [k3.adr]) (fun b hb => by rw [List.mem_singleton.mp hb]; exact lt1) (fun b hb => by rw [List.mem_singleton.mp hb]; exact lt2) (fun b hb => by rw [List.mem_singleton.mp hb]; exact lt3), Nat.ne_of_lt lt1, Nat.ne_of_lt (Nat.lt_of_lt_of_le lt2 (Nat.le_add_right _ _)), Nat.ne_of_lt (Nat.lt_of_lt_of_le lt3 (Nat.le_add_right _ _))⟩
  refine ⟨s1.heap.objs.size + 5, [s1.heap.objs.size + 5, s1.heap.objs.size + 3, s1.heap.objs.size + 4, s1.heap.objs.size, s1.heap.objs.size + 1, s1.heap.objs.size + 2], _, _, H1, rfl, I2, turn_zip3A k1 k2 k3 D, ⟨hz, hTI, ⟨_, _, _, hTO⟩, itA_new h1, itA_new h2, itA_new h3⟩, fun c hcm => ?_, q⟩
  have hle : s1.heap.objs.size ≤ c := by
    simp only [List.mem_cons, List.not_mem_nil, or_false] at hcm
    rcases hcm with z | z | z | z | z | z
    · rw [z]; exact Nat.le_add_right _ _
    · rw [z]; exact Nat.le_add_right _ _
    · rw [z]; exact Nat.le_add_right _ _
    · rw [z]; exact Nat.le_refl _
    · rw [z]; exact Nat.le_add_right _ _
    · rw [z]; exact Nat.le_add_right _ _
  exact I1.fpOk hle (I1.hok.fresh hle)
end Iv

/-! IvJ: readings of sources and targets by machines; comprehensions. -/
namespace Iv
open PySem PySem.Spec PyProof.Rows L2

/-- J walks what xs tells, as long as what is known stands -/
def IterOk (G : Gx) (lv : Addr → Prop) (φ : List Addr) (H : Hp) (xs : List IV) (J : It) : Prop :=
  ∀ lv' φ' H', Ext lv φ H lv' φ' H' → (∀ a, lv' a → Mut (H' a)) → (∀ i, i < xs.length → J.go i H') ∧ J.stop xs.length H' ∧
    ∀ i v H'', i < xs.length → J.yld i H' v H'' → Same H' H'' ∧ ∃ y, xs[i]? = some y ∧ RV G lv' φ' H'' y v
def relI (G : Gx) : Rel (List IV) It := fun lv φ H xs J => IterOk G lv φ H xs J
abbrev Mi := Env → IH → Res (List IV)
def rI (G : Gx) (f : Mi) : TI := fun σ H R => ∃ O h φ env, Rep G O h φ H ∧ EnvR G (Lv O h φ) φ H env σ ∧ Post (relI G) G O h φ H (f env h) R
theorem PIimp {X : Cx} {tg e : Expr} {t t' : TI} (h : PI X tg e t) (f : ∀ σ H R, t' σ H R → t σ H R) : PI X tg e t' := ⟨fun pins s σ H R I q => h.run pins s σ H R I (f σ H R q)⟩
theorem PGimp {X : Cx} {e : Expr} {t t' : TG} (h : PG X e t) (f : ∀ v σ H Q, t' v σ H Q → t v σ H Q) : PG X e t' := ⟨fun pins s σ H v u Q I r q => h.run pins s σ H v u Q I r (f v σ H Q q)⟩
theorem PGsimp {X : Cx} {e : List Expr} {t t' : TGs} (h : PGs X e t) (f : ∀ v σ H Q, t' v σ H Q → t v σ H Q) : PGs X e t' := ⟨fun pins s σ H v u Q I r q => h.run pins s σ H v u Q I r (f v σ H Q q)⟩

/-! ### a list, a tuple, a text -/
def iAny (K : PySem.W.Frag) (tl : TE) : TI := fun σ H R => tl σ H fun x H1 => (∃ a xs, x = .ref a ∧ SqL K H1 a xs ∧ R (Itl K a) H1) ∨ (∃ a xs, x = .ref a ∧ SqT K H1 a xs ∧ R (Itt K a) H1) ∨ ∃ z, x = .str z ∧ R (Its z) H1
theorem pi_any {X : Cx} {tg l : Expr} {tl : TE} (hl : PE X l tl) : PI X tg l (iAny X.K tl) := by
  refine ⟨fun pins s σ H R I h => ?_⟩
  refine thn (hl.run pins s σ H _ I h) fun v s1 ⟨x, H1, I1, r1, q1⟩ => ?_
  rcases q1 with ⟨a, xs, e, hq, q⟩ | ⟨a, xs, e, hq, q⟩ | ⟨z, e, q⟩
  · subst e
    cases r1
    obtain ⟨its, rv, p, hz⟩ := I1.list hq
    refine wpAny_pyIter_list p.isList ?_
    refine ⟨s1.heap.objs.size, [s1.heap.objs.size], _, _, H1, rfl, I1.kept (t' := s1.toks) fun b o e => Heap.get?_push_of_some _ e, turn_list a _, ⟨_, Heap.get?_push_size _ rfl, rfl, rfl⟩, fun b hb => ?_, q⟩
    have e : b = s1.heap.objs.size := by simpa using hb
    subst e
    exact I1.fpOk (Nat.le_refl _) (I1.hok.fresh (Nat.le_refl _))
  · subst e
    cases r1
    obtain ⟨its, rv, p, hz⟩ := I1.tuple hq
    refine wpAny_pyIter_tuple (show s1.heap.IsTuple a its.toArray from p) ?_
    refine ⟨s1.heap.objs.size, [s1.heap.objs.size], _, _, H1, rfl, I1.kept (t' := s1.toks) fun b o e => Heap.get?_push_of_some _ e, turn_tuple a _, ⟨_, Heap.get?_push_size _ rfl, rfl, rfl⟩, fun b hb => ?_, q⟩
    have e : b = s1.heap.objs.size := by simpa using hb
    subst e
    exact I1.fpOk (Nat.le_refl _) (I1.hok.fresh (Nat.le_refl _))
  · subst e
    obtain ⟨t, rfl⟩ := r1
    cases ha : z.cps.all (· < 128)
    · exact wpAny_pyIter_wide ha (pi_one (tk := s1.toks) I1 _ (turn_str _ z t "str_iterator" (.inr rfl)) ⟨_, Heap.get?_push_size _ rfl, rfl, rfl⟩ q)
    · exact wpAny_pyIter_ascii ha (pi_one (tk := s1.toks) I1 _ (turn_str _ z t "str_ascii_iterator" (.inl rfl)) ⟨_, Heap.get?_push_size _ rfl, rfl, rfl⟩ q)
def chI (z : Str) : List IV := z.cps.toList.map fun c => .str ⟨#[c]⟩
def seqI : IV → Option (List IV)
  | .lst xs => some xs
  | .tup xs => some xs
  | .rdl xs => some xs
  | .tpx xs => some xs
  | .str z => some (chI z)
  | _ => none
section
variable {G : Gx} {lv : Addr → Prop} {φ : List Addr} {H : Hp}
theorem RVs.get2 {xs : List IV} {vs : List V} {i : Nat} {v : V} (r : RVs G lv φ H xs vs) (e : vs[i]? = some v) : ∃ y, xs[i]? = some y ∧ RV G lv φ H y v := by
  have lt := (List.getElem?_eq_some_iff.mp e).1
  rw [r.length] at lt
  obtain ⟨w, e1, e2⟩ := r.get (x := xs[i]) (i := i) (by simp [lt])
  rw [e] at e1
  cases e1
  exact ⟨xs[i], by simp [lt], e2⟩
theorem iter_l {K : PySem.W.Frag} (ok : ∀ a, lv a → Mut (H a)) {a : Addr} {xs : List IV} {vs : List V} (st : ∀ lv' φ' H', Ext lv φ H lv' φ' H' → SqL K H' a vs) (r : RVs G lv φ H xs vs) : IterOk G lv φ H xs (Itl K a) := by
  intro lv' φ' H' x ok'
  have q : SqL K H' a vs := st lv' φ' H' x
  have l := r.length
  refine ⟨fun i hi => ⟨vs, vs[i]'(by omega), q, by simp [show i < vs.length by omega]⟩, ⟨vs, q, by omega⟩, fun i v H'' hi y => ?_⟩
  obtain ⟨rfl, f⟩ := y
  obtain ⟨y, e1, e2⟩ := r.get2 (f vs q)
  exact ⟨Same.refl _, y, e1, RV.mono x ok y e2⟩
theorem iter_t {K : PySem.W.Frag} (ok : ∀ a, lv a → Mut (H a)) {a : Addr} {xs : List IV} {vs : List V} (st : ∀ lv' φ' H', Ext lv φ H lv' φ' H' → SqT K H' a vs) (r : RVs G lv φ H xs vs) : IterOk G lv φ H xs (Itt K a) := by
  intro lv' φ' H' x ok'
  have q : SqT K H' a vs := st lv' φ' H' x
  have l := r.length
  refine ⟨fun i hi => ⟨vs, vs[i]'(by omega), q, by simp [show i < vs.length by omega]⟩, ⟨vs, q, by omega⟩, fun i v H'' hi y => ?_⟩
  obtain ⟨rfl, f⟩ := y
  obtain ⟨y, e1, e2⟩ := r.get2 (f vs q)
  exact ⟨Same.refl _, y, e1, RV.mono x ok y e2⟩
theorem iter_s {z : Str} : IterOk G lv φ H (chI z) (Its z) := by
  intro lv' φ' H' x ok'
  have l : (chI z).length = z.cps.size := by simp [chI]
  refine ⟨fun i hi => by rw [l] at hi; exact hi, by rw [l]; exact Nat.le_refl _, fun i v H'' hi y => ?_⟩
  obtain ⟨rfl, c, e, rfl⟩ := y
  refine ⟨Same.refl _, .str ⟨#[c]⟩, ?_, by simp only [RV]⟩
  unfold chI
  rw [List.getElem?_map, Array.getElem?_toList, e]
  rfl
end
def mSeq (f : Mv) : Mi := fun env h => (f env h).bind fun x h1 => .ofO (seqI x) h1
section
variable {X : Cx} {G : Gx} {tg e e2 e3 : Expr} {f f2 f3 : Mv} {pos p : Pos}
theorem i_seq (hK : G.K = X.K) (he : PE X e (rE G f)) : PI X tg e (rI G (mSeq f)) := by
  refine PIimp (pi_any he) fun σ H R ⟨O, h, φ, env, Rp, E, P⟩ => ?_
  refine ⟨O, h, φ, env, Rp, E, (P.bind (rel := relV G)).mono fun v H1 ⟨x, h1, φ1, _, g1, r1, P1⟩ => ?_⟩
  have ok := g1.rep.ok
  cases x with
  | lst xs =>
    simp only [relV, RV] at r1
    obtain ⟨a, vs, rfl, nl, hq, r⟩ := r1
    exact .inl ⟨a, vs, rfl, SqL.of hq, P1 φ1 H1 _ (Go.refl g1.rep) (iter_l ok (fun lv' φ' H' x => SqL.of (x.keep _ _ hq nl)) r)⟩
  | tup xs =>
    simp only [relV, RV] at r1
    obtain ⟨a, vs, rfl, hq, r⟩ := r1
    exact .inr (.inl ⟨a, vs, rfl, hK ▸ hq, P1 φ1 H1 _ (Go.refl g1.rep) (iter_t ok (fun lv' φ' H' x => hK ▸ x.sqT ok hq) r)⟩)
  | tpx xs =>
    simp only [relV, RV] at r1
    obtain ⟨a, vs, rfl, hq, r⟩ := r1
    have hq' : SqT G.K H1 a vs := hq.sq
    exact .inr (.inl ⟨a, vs, rfl, hK ▸ hq', P1 φ1 H1 _ (Go.refl g1.rep) (iter_t ok (fun lv' φ' H' x => hK ▸ x.sqT ok hq') r)⟩)
  | rdl xs =>
    simp only [relV, RV] at r1
    obtain ⟨a, vs, rfl, hq, r⟩ := r1
    exact .inl ⟨a, vs, rfl, hK ▸ hq.sq, P1 φ1 H1 _ (Go.refl g1.rep) (iter_l ok (fun lv' φ' H' x => hK ▸ (x.sqF ok hq).sq) r)⟩
  | str z =>
    simp only [relV, RV] at r1
    exact .inr (.inr ⟨z, r1, P1 φ1 H1 _ (Go.refl g1.rep) iter_s⟩)
  | _ => exact P1.elim
/-- range(n), range(a, b) -/
def rngI (lo : Int) (n : Nat) : List IV := (List.range n).map fun i => .int (lo + (i : Nat))
theorem iter_r {lv : Addr → Prop} {φ : List Addr} {H : Hp} {lo : Int} {n : Nat} : IterOk G lv φ H (rngI lo n) (Itr lo n) := by
  intro lv' φ' H' x ok'
  have l : (rngI lo n).length = n := by simp [rngI]
  refine ⟨fun i hi => by rw [l] at hi; exact hi, by rw [l]; exact Nat.le_refl _, fun i v H'' hi y => ?_⟩
  obtain ⟨rfl, rfl⟩ := y
  rw [l] at hi
  refine ⟨Same.refl _, .int (lo + (i : Nat)), ?_, by simp only [RV]⟩
  unfold rngI
  simp [hi]
def mRng1 (f : Mv) : Mi := fun env h => (f env h).bind fun x h1 => match x with
  | .int j => if -(2 ^ 62) ≤ j ∧ j < 2 ^ 62 then .ok (rngI 0 j.toNat) h1 else .bad
  | _ => .bad
def mRng2 (f g : Mv) : Mi := fun env h => (f env h).bind fun x h1 => (g env h1).bind fun y h2 => match x, y with
  | .int i, .int j => if -(2 ^ 62) ≤ i ∧ i < 2 ^ 62 ∧ -(2 ^ 62) ≤ j ∧ j < 2 ^ 62 then .ok (rngI i (j - i).toNat) h2 else .bad
  | _, _ => .bad
theorem i_rng1 (hg : Gl X "range") (hm : X.mg "range" = none) (he : PE X e (rE G f)) (hs : starEach [e] X.env = [(false, eval e X.env)] := by rfl) : PI X tg (.Call (.Name "range" p) [e] [] pos) (rI G (mRng1 f)) := by
  refine PIimp (pi_range1 hg hm (pa_cons he pa_nil hs) hs) fun σ H R ⟨O, h, φ, env, Rp, E, P⟩ => ?_
  refine ⟨O, h, φ, env, Rp, E, (P.bind (rel := relV G)).mono fun v H1 ⟨x, h1, φ1, _, g1, r1, P1⟩ => ?_⟩
  cases x with
  | int j =>
    simp only [relV, RV] at r1
    subst r1
    by_cases hj : -(2 ^ 62) ≤ j ∧ j < 2 ^ 62
    · have P2 : Post (relI G) G O h1 φ1 H1 (if -(2 ^ 62) ≤ j ∧ j < 2 ^ 62 then Res.ok (rngI 0 j.toNat) h1 else Res.bad) R := P1
      rw [if_pos hj] at P2
      exact ⟨j, rfl, hj.1, hj.2, P2 φ1 H1 _ (Go.refl g1.rep) iter_r⟩
    · have P2 : Post (relI G) G O h1 φ1 H1 (if -(2 ^ 62) ≤ j ∧ j < 2 ^ 62 then Res.ok (rngI 0 j.toNat) h1 else Res.bad) R := P1
      rw [if_neg hj] at P2
      exact P2.elim
  | _ => exact P1.elim
theorem i_rng2 (hg : Gl X "range") (hm : X.mg "range" = none) (he : PE X e (rE G f)) (he2 : PE X e2 (rE G f2)) (hs : starEach [e, e2] X.env = [(false, eval e X.env), (false, eval e2 X.env)] := by rfl) (hs2 : starEach [e2] X.env = [(false, eval e2 X.env)] := by rfl) : PI X tg (.Call (.Name "range" p) [e, e2] [] pos) (rI G (mRng2 f f2)) := by
  refine PIimp (pi_range2 hg hm (pa_cons he (pa_cons he2 pa_nil hs2) (hs.trans (by rw [hs2]))) hs hs2) fun σ H R ⟨O, h, φ, env, Rp, E, P⟩ => ?_
  refine ⟨O, h, φ, env, Rp, E, (P.bind (rel := relV G)).mono fun v H1 ⟨x, h1, φ1, _, g1, r1, P1⟩ => ?_⟩
  refine ⟨O, h1, φ1, env, g1.rep, E.go Rp g1, (P1.bind (rel := relV G)).mono fun u H2 ⟨y, h2, φ2, _, g2, r2, P2⟩ => ?_⟩
  cases x with
  | int i =>
    cases y with
    | int j =>
      simp only [relV, RV] at r1 r2
      subst r1 r2
      have P3 : Post (relI G) G O h2 φ2 H2 (if -(2 ^ 62) ≤ i ∧ i < 2 ^ 62 ∧ -(2 ^ 62) ≤ j ∧ j < 2 ^ 62 then Res.ok (rngI i (j - i).toNat) h2 else Res.bad) R := P2
      by_cases hj : -(2 ^ 62) ≤ i ∧ i < 2 ^ 62 ∧ -(2 ^ 62) ≤ j ∧ j < 2 ^ 62
      · rw [if_pos hj] at P3
        exact ⟨i, j, rfl, hj, P3 φ2 H2 _ (Go.refl g2.rep) iter_r⟩
      · rw [if_neg hj] at P3
        exact P3.elim
    | _ => exact P2.elim
  | _ => exact P2.elim
/-! ### counted, side by side -/
def skI : IV → Option (List IV)
  | .lst xs => some xs
  | .tup xs => some xs
  | .rdl xs => some xs
  | .tpx xs => some xs
  | _ => none
theorem sk_of {lv : Addr → Prop} {φ : List Addr} {H : Hp} (hK : G.K = X.K) (ok : ∀ a, lv a → Mut (H a)) {x : IV} {v : V} {xs : List IV} (r : RV G lv φ H x v) (e : skI x = some xs) : ∃ k vs, v = .ref (Sk.adr k) ∧ RVs G lv φ H xs vs ∧ SqA X.K H k vs ∧ ∀ lv' φ' H', Ext lv φ H lv' φ' H' → SqA X.K H' k vs := by
  cases x with
  | lst ys =>
    cases e
    simp only [RV] at r
    obtain ⟨a, vs, rfl, nl, hq, r⟩ := r
    exact ⟨.l a, vs, rfl, r, SqL.of hq, fun _ _ _ x => SqL.of (x.keep _ _ hq nl)⟩
  | tup ys =>
    cases e
    simp only [RV] at r
    obtain ⟨a, vs, rfl, hq, r⟩ := r
    exact ⟨.t a, vs, rfl, r, hK ▸ hq, fun _ _ _ x => hK ▸ x.sqT ok hq⟩
  | tpx ys =>
    cases e
    simp only [RV] at r
    obtain ⟨a, vs, rfl, hq, r⟩ := r
    have hq' : SqT G.K H a vs := hq.sq
    exact ⟨.t a, vs, rfl, r, hK ▸ hq', fun _ _ _ x => hK ▸ x.sqT ok hq'⟩
  | rdl ys =>
    cases e
    simp only [RV] at r
    obtain ⟨a, vs, rfl, hq, r⟩ := r
    exact ⟨.l a, vs, rfl, r, hK ▸ hq.sq, fun _ _ _ x => hK ▸ (x.sqF ok hq).sq⟩
  | _ => cases e
def enI : Nat → List IV → List IV
  | _, [] => []
  | n, x :: xs => .tup [.int (n : Nat), x] :: enI (n + 1) xs
theorem enI_len : ∀ (n : Nat) (xs : List IV), (enI n xs).length = xs.length
  | _, [] => rfl
  | n, x :: xs => by rw [enI, List.length_cons, List.length_cons, enI_len]
theorem enI_get : ∀ (n : Nat) (xs : List IV) (i : Nat) (x : IV), xs[i]? = some x → (enI n xs)[i]? = some (.tup [.int ((n + i : Nat) : Int), x])
  | _, [], i, x, h => by simp at h
  | n, y :: xs, 0, x, h => by
    simp at h
    subst h
    rfl
  | n, y :: xs, i + 1, x, h => by
    have q := enI_get (n + 1) xs i x (by simpa using h)
    rw [enI, List.getElem?_cons_succ, q]
    simp only [Option.some.injEq, IV.tup.injEq, List.cons.injEq, IV.int.injEq, and_true]
    omega
def zipI2 : List IV → List IV → List IV
  | x :: xs, y :: ys => .tup [x, y] :: zipI2 xs ys
  | _, _ => []
def zipI3 : List IV → List IV → List IV → List IV
  | x :: xs, y :: ys, z :: zs => .tup [x, y, z] :: zipI3 xs ys zs
  | _, _, _ => []
theorem zipI2_len : ∀ xs ys : List IV, (zipI2 xs ys).length = min xs.length ys.length
  | [], _ => by simp [zipI2]
  | _ :: _, [] => by simp [zipI2]
  | x :: xs, y :: ys => by
    rw [zipI2, List.length_cons, zipI2_len xs ys, List.length_cons, List.length_cons]
    omega
theorem zipI2_get : ∀ (xs ys : List IV) (i : Nat) (x y : IV), xs[i]? = some x → ys[i]? = some y → (zipI2 xs ys)[i]? = some (.tup [x, y])
  | [], _, i, x, y, h, _ => by simp at h
  | _ :: _, [], i, x, y, _, h => by simp at h
  | a :: xs, b :: ys, 0, x, y, h, h2 => by
    simp at h h2
    subst h h2
    rfl
  | a :: xs, b :: ys, i + 1, x, y, h, h2 => by
    rw [zipI2, List.getElem?_cons_succ]
    exact zipI2_get xs ys i x y (by simpa using h) (by simpa using h2)
theorem zipI3_len : ∀ xs ys zs : List IV, (zipI3 xs ys zs).length = min (min xs.length ys.length) zs.length
  | [], _, _ => by simp [zipI3]
  | _ :: _, [], _ => by simp [zipI3]
  | _ :: _, _ :: _, [] => by simp [zipI3]
  | x :: xs, y :: ys, z :: zs => by
    rw [zipI3, List.length_cons, zipI3_len xs ys zs, List.length_cons, List.length_cons, List.length_cons]
    omega
theorem zipI3_get : ∀ (xs ys zs : List IV) (i : Nat) (x y z : IV), xs[i]? = some x → ys[i]? = some y → zs[i]? = some z → (zipI3 xs ys zs)[i]? = some (.tup [x, y, z])
  | [], _, _, i, x, y, z, h, _, _ => by simp at h
  | _ :: _, [], _, i, x, y, z, _, h, _ => by simp at h
  | _ :: _, _ :: _, [], i, x, y, z, _, _, h => by simp at h
  | a :: xs, b :: ys, c :: zs, 0, x, y, z, h, h2, h3 => by
    simp at h h2 h3
    subst h h2 h3
    rfl
  | a :: xs, b :: ys, c :: zs, i + 1, x, y, z, h, h2, h3 => by
    rw [zipI3, List.getElem?_cons_succ]
    exact zipI3_get xs ys zs i x y z (by simpa using h) (by simpa using h2) (by simpa using h3)
def mEnum (f : Mv) : Mi := fun env h => (f env h).bind fun x h1 => .ofO ((skI x).map (enI 0)) h1
def mZip2 (f g : Mv) : Mi := fun env h => (f env h).bind fun x h1 => (g env h1).bind fun y h2 => match skI x, skI y with
  | some xs, some ys => .ok (zipI2 xs ys) h2
  | _, _ => .bad
def mZip3 (f g k : Mv) : Mi := fun env h => (f env h).bind fun x h1 => (g env h1).bind fun y h2 => (k env h2).bind fun z h3 => match skI x, skI y, skI z with
  | some xs, some ys, some zs => .ok (zipI3 xs ys zs) h3
  | _, _, _ => .bad
theorem i_enum {elts : List Expr} {kk : Nat} {tpos : Pos} (hK : G.K = X.K) (hg : Gl X "enumerate") (hm : X.mg "enumerate" = none) (he : PE X e (rE G f)) (hs : starEach [e] X.env = [(false, eval e X.env)] := by rfl) : PI X (.Tuple elts kk tpos) (.Call (.Name "enumerate" p) [e] [] pos) (rI G (mEnum f)) := by
  refine PIimp (pi_enumA hg hm (pa_cons he pa_nil hs) hs) fun σ H R ⟨O, h, φ, env, Rp, E, P⟩ => ?_
  refine ⟨O, h, φ, env, Rp, E, (P.bind (rel := relV G)).mono fun v H1 ⟨x, h1, φ1, _, g1, r1, P1⟩ => ?_⟩
  cases q : skI x with
  | none =>
    rw [q] at P1
    exact P1.elim
  | some xs =>
    rw [q] at P1
    obtain ⟨k, vs, rfl, r, hq, st⟩ := sk_of hK g1.rep.ok r1 q
    refine ⟨k, vs, rfl, hq, P1 φ1 H1 _ (Go.refl g1.rep) fun lv' φ' H' x ok' => ?_⟩
    have l := r.length
    have q' := st lv' φ' H' x
    have r' := RVs.mono x g1.rep.ok _ r
    rw [enI_len]
    refine ⟨fun i hi => ⟨vs, vs[i]'(by omega), q', by simp [show i < vs.length by omega]⟩, ⟨vs, q', l⟩, fun i v H'' hi y => ?_⟩
    obtain ⟨T, w, rfl, nT, rfl, f1⟩ := y
    obtain ⟨y, e1, e2⟩ := r'.get2 (f1 vs q')
    refine ⟨same_upd nT, _, enI_get 0 xs i y e1, RV.newT ok' nT ?_⟩
    simp only [RVs, RV]
    exact ⟨_, _, rfl, by simp, _, _, rfl, e2, rfl⟩
theorem i_zip2 {elts : List Expr} {kk : Nat} {tpos : Pos} (hK : G.K = X.K) (hg : Gl X "zip") (hm : X.mg "zip" = none) (he : PE X e (rE G f)) (he2 : PE X e2 (rE G f2)) (hs : starEach [e, e2] X.env = (false, eval e X.env) :: starEach [e2] X.env := by rfl) (hs2 : starEach [e2] X.env = (false, eval e2 X.env) :: starEach [] X.env := by rfl) (hpl : (backTo pos (starEach [e2] X.env)).any (·.1) = false := by rfl) :
    PI X (.Tuple elts kk tpos) (.Call (.Name "zip" p) [e, e2] [] pos) (rI G (mZip2 f f2)) := by
  refine PIimp (pi_zip2 hg hm (pa_cons he (pa_cons he2 pa_nil hs2) hs) hs hpl) fun σ H R ⟨O, h, φ, env, Rp, E, P⟩ => ?_
  refine ⟨O, h, φ, env, Rp, E, (P.bind (rel := relV G)).mono fun v H1 ⟨x, h1, φ1, _, g1, r1, P1⟩ => ?_⟩
  refine ⟨O, h1, φ1, env, g1.rep, E.go Rp g1, (P1.bind (rel := relV G)).mono fun v2 H2 ⟨x2, h2, φ2, _, g2, r2, P2⟩ => ?_⟩
  cases q : skI x with
  | none =>
    rw [q] at P2
    exact P2.elim
  | some xs =>
    cases q2 : skI x2 with
    | none =>
      rw [q, q2] at P2
      exact P2.elim
    | some ys =>
      rw [q, q2] at P2
      obtain ⟨k, vs, rfl, r, hq, st⟩ := sk_of hK g2.rep.ok (relV.go g1.rep g2 r1) q
      obtain ⟨k2, vs2, rfl, r2', hq2, st2⟩ := sk_of hK g2.rep.ok r2 q2
      refine ⟨k, k2, vs, vs2, rfl, hq, hq2, P2 φ2 H2 _ (Go.refl g2.rep) fun lv' φ' H' x ok' => ?_⟩
      have l := r.length
      have l2 := r2'.length
      have q' := st lv' φ' H' x
      have q2' := st2 lv' φ' H' x
      have ra := RVs.mono x g2.rep.ok _ r
      have rb := RVs.mono x g2.rep.ok _ r2'
      rw [zipI2_len]
      refine ⟨fun i hi => ⟨vs, vs2, vs[i]'(by omega), vs2[i]'(by omega), q', by simp [show i < vs.length by omega], q2', by simp [show i < vs2.length by omega]⟩, ⟨vs, vs2, q', q2', by omega⟩, fun i v H'' hi y => ?_⟩
      obtain ⟨T, w, w2, rfl, nT, rfl, f1, f2⟩ := y
      obtain ⟨y, e1, e2⟩ := ra.get2 (f1 vs q')
      obtain ⟨y2, e3, e4⟩ := rb.get2 (f2 vs2 q2')
      refine ⟨same_upd nT, _, zipI2_get xs ys i y y2 e1 e3, RV.newT ok' nT ?_⟩
      simp only [RVs]
      exact ⟨_, _, rfl, e2, _, _, rfl, e4, rfl⟩
theorem i_zip3 {elts : List Expr} {kk : Nat} {tpos : Pos} (hK : G.K = X.K) (hg : Gl X "zip") (hm : X.mg "zip" = none) (he : PE X e (rE G f)) (he2 : PE X e2 (rE G f2)) (he3 : PE X e3 (rE G f3)) (hs : starEach [e, e2, e3] X.env = (false, eval e X.env) :: starEach [e2, e3] X.env := by rfl) (hs2 : starEach [e2, e3] X.env = (false, eval e2 X.env) :: starEach [e3] X.env := by rfl) (hs3 : starEach [e3] X.env = (false, eval e3 X.env) :: starEach [] X.env := by rfl) (hpl : (backTo pos (starEach [e2, e3] X.env)).any (·.1) = false := by rfl) :
    PI X (.Tuple elts kk tpos) (.Call (.Name "zip" p) [e, e2, e3] [] pos) (rI G (mZip3 f f2 f3)) := by
  refine PIimp (pi_zip3 hg hm (pa_cons he (pa_cons he2 (pa_cons he3 pa_nil hs3) hs2) hs) hs hpl) fun σ H R ⟨O, h, φ, env, Rp, E, P⟩ => ?_
  refine ⟨O, h, φ, env, Rp, E, (P.bind (rel := relV G)).mono fun v H1 ⟨x, h1, φ1, _, g1, r1, P1⟩ => ?_⟩
  refine ⟨O, h1, φ1, env, g1.rep, E.go Rp g1, (P1.bind (rel := relV G)).mono fun v2 H2 ⟨x2, h2, φ2, _, g2, r2, P2⟩ => ?_⟩
  refine ⟨O, h2, φ2, env, g2.rep, (E.go Rp g1).go g1.rep g2, (P2.bind (rel := relV G)).mono fun v3 H3 ⟨x3, h3, φ3, _, g3, r3, P3⟩ => ?_⟩
  cases q : skI x with
  | none =>
    rw [q] at P3
    exact P3.elim
  | some xs =>
    cases q2 : skI x2 with
    | none =>
      rw [q, q2] at P3
      exact P3.elim
    | some ys =>
      cases q3 : skI x3 with
      | none =>
        rw [q, q2, q3] at P3
        exact P3.elim
      | some zs =>
        rw [q, q2, q3] at P3
        obtain ⟨k, vs, rfl, r, hq, st⟩ := sk_of hK g3.rep.ok (relV.go g2.rep g3 (relV.go g1.rep g2 r1)) q
        obtain ⟨k2, vs2, rfl, r2', hq2, st2⟩ := sk_of hK g3.rep.ok (relV.go g2.rep g3 r2) q2
        obtain ⟨k3, vs3, rfl, r3', hq3, st3⟩ := sk_of hK g3.rep.ok r3 q3
        refine ⟨k, k2, k3, vs, vs2, vs3, rfl, hq, hq2, hq3, P3 φ3 H3 _ (Go.refl g3.rep) fun lv' φ' H' x ok' => ?_⟩
        have l := r.length
        have l2 := r2'.length
        have l3 := r3'.length
        have q' := st lv' φ' H' x
        have q2' := st2 lv' φ' H' x
        have q3' := st3 lv' φ' H' x
        have ra := RVs.mono x g3.rep.ok _ r
        have rb := RVs.mono x g3.rep.ok _ r2'
        have rc := RVs.mono x g3.rep.ok _ r3'
        rw [zipI3_len]
        refine ⟨fun i hi => ⟨vs, vs2, vs3, vs[i]'(by omega), vs2[i]'(by omega), vs3[i]'(by omega), q', by simp [show i < vs.length by omega], q2', by simp [show i < vs2.length by omega], q3', by simp [show i < vs3.length by omega]⟩, ⟨vs, vs2, vs3, q', q2', q3', by omega⟩, fun i v H'' hi y => ?_⟩
        obtain ⟨T, w, w2, w3, rfl, nT, rfl, f1, f2, f3⟩ := y
        obtain ⟨y, e1, e2⟩ := ra.get2 (f1 vs q')
        obtain ⟨y2, e3, e4⟩ := rb.get2 (f2 vs2 q2')
        obtain ⟨y3, e5, e6⟩ := rc.get2 (f3 vs3 q3')
        refine ⟨same_upd nT, _, zipI3_get xs ys zs i y y2 y3 e1 e3 e5, RV.newT ok' nT ?_⟩
        simp only [RVs]
        exact ⟨_, _, rfl, e2, _, _, rfl, e4, _, _, rfl, e6, rfl⟩
end
end Iv

/-! IvK: targets; list comprehensions. -/
namespace Iv
open PySem PySem.Spec PyProof.Rows L2

/-! ### targets -/
abbrev Mg := IV → Env → Option Env
abbrev Mgs := List IV → Env → Option Env
def OnlyAt (ws : List Nat) (σ σ' : L2.St) : Prop := σ'.length = σ.length ∧ ∀ i, i ∉ ws → σ'[i]? = σ[i]?
theorem OnlyAt.refl {ws : List Nat} {σ : L2.St} : OnlyAt ws σ σ := ⟨rfl, fun _ _ => rfl⟩
theorem OnlyAt.trans {a b : List Nat} {σ σ' σ2 : L2.St} (x : OnlyAt a σ σ') (y : OnlyAt b σ' σ2) : OnlyAt (a ++ b) σ σ2 :=
  ⟨y.1.trans x.1, fun i n => (y.2 i fun h => n (List.mem_append_right _ h)).trans (x.2 i fun h => n (List.mem_append_left _ h))⟩
theorem OnlyAt.mono {a b : List Nat} {σ σ' : L2.St} (x : OnlyAt a σ σ') (h : ∀ i ∈ a, i ∈ b) : OnlyAt b σ σ' := ⟨x.1, fun i n => x.2 i fun m => n (h i m)⟩
theorem wipe_at : ∀ (vs : List Nat) (σ : L2.St) (i : Nat), (wipe σ vs)[i]? = if i ∈ vs ∧ i < σ.length then some none else σ[i]?
  | [], σ, i => by simp [wipe]
  | v :: vs, σ, i => by
    unfold wipe
    by_cases h : v = i
    · subst h
      by_cases l : v < σ.length
      · rw [List.getElem?_set_self (by rw [wipe_length]; exact l), if_pos ⟨List.mem_cons_self, l⟩]
      · rw [if_neg fun z => l z.2, List.getElem?_eq_none (by rw [List.length_set, wipe_length]; omega), List.getElem?_eq_none (by omega)]
    · rw [List.getElem?_set_ne h, wipe_at vs σ i]
      by_cases m : i ∈ vs
      · by_cases l : i < σ.length
        · rw [if_pos ⟨m, l⟩, if_pos ⟨List.mem_cons_of_mem _ m, l⟩]
        · rw [if_neg fun z => l z.2, if_neg fun z => l z.2]
      · rw [if_neg fun z => m z.1, if_neg]
        rintro ⟨z, _⟩
        rcases List.mem_cons.mp z with z | z
        · exact h z.symm
        · exact m z
theorem OnlyAt.wipe {vs : List Nat} {σ σ' : L2.St} (x : OnlyAt vs σ σ') : wipe σ' vs = L2.wipe σ vs := by
  refine List.ext_getElem? fun i => ?_
  rw [wipe_at, wipe_at, x.1]
  by_cases h : i ∈ vs ∧ i < σ.length
  · rw [if_pos h, if_pos h]
  · rw [if_neg h, if_neg h]
    by_cases m : i ∈ vs
    · have l : σ.length ≤ i := by
        have : ¬ i < σ.length := fun z => h ⟨m, z⟩
        omega
      rw [List.getElem?_eq_none l, List.getElem?_eq_none (by rw [x.1]; exact l)]
    · exact x.2 i m
theorem onlyAt_wipe {vs : List Nat} {σ : L2.St} : OnlyAt vs σ (wipe σ vs) := ⟨wipe_length σ vs, fun i n => by rw [wipe_at, if_neg fun z => n z.1]⟩
/-- as wipe, for the machine's names -/
def wipeI (env : Env) : List Nat → Env
  | [] => env
  | v :: vs => (wipeI env vs).set v none
section
variable {G : Gx} {lv : Addr → Prop} {φ : List Addr} {H : Hp}
theorem EnvR.set {env : Env} {σ : L2.St} {i : Nat} {x : IV} {v : V} (e : EnvR G lv φ H env σ) (r : RV G lv φ H x v) : EnvR G lv φ H (env.set i (some x)) (σ.set i (some v)) := by
  refine ⟨by rw [List.length_set, List.length_set]; exact e.1, fun j y q => ?_⟩
  by_cases h : i = j
  · subst h
    have l : i < env.length := by
      have := (List.getElem?_eq_some_iff.mp q).1
      simpa using this
    rw [List.getElem?_set_self l] at q
    cases q
    exact ⟨v, by rw [List.getElem?_set_self (by rw [← e.1]; exact l)], r⟩
  · rw [List.getElem?_set_ne h] at q
    obtain ⟨u, e1, e2⟩ := e.2 j y q
    exact ⟨u, by rw [List.getElem?_set_ne h]; exact e1, e2⟩
theorem EnvR.out {env : Env} {σ : L2.St} {i : Nat} (e : EnvR G lv φ H env σ) : EnvR G lv φ H (env.set i none) (σ.set i none) := by
  refine ⟨by rw [List.length_set, List.length_set]; exact e.1, fun j y q => ?_⟩
  by_cases h : i = j
  · subst h
    have l : i < env.length := by
      have := (List.getElem?_eq_some_iff.mp q).1
      simpa using this
    rw [List.getElem?_set_self l] at q
    cases q
  · rw [List.getElem?_set_ne h] at q
    obtain ⟨u, e1, e2⟩ := e.2 j y q
    exact ⟨u, by rw [List.getElem?_set_ne h]; exact e1, e2⟩
theorem EnvR.wipe {env : Env} {σ : L2.St} (e : EnvR G lv φ H env σ) : ∀ vs, EnvR G lv φ H (wipeI env vs) (L2.wipe σ vs)
  | [] => e
  | v :: vs => (e.wipe vs).out
theorem EnvR.same {H' : Hp} (s : Same H H') (ok : ∀ a, lv a → Mut (H a)) {env : Env} {σ : L2.St} (e : EnvR G lv φ H env σ) : EnvR G lv φ H' env σ :=
  ⟨e.1, fun i x q => let ⟨v, e1, e2⟩ := e.2 i x q; ⟨v, e1, RV.same s ok e2⟩⟩
end
def rG (G : Gx) (ws : List Nat) (f : Mg) : TG := fun v σ H Q => ∃ lv φ env x env', EnvR G lv φ H env σ ∧ RV G lv φ H x v ∧ f x env = some env' ∧ ∀ σ', EnvR G lv φ H env' σ' → OnlyAt ws σ σ' → Q σ' H
def rGs (G : Gx) (ws : List Nat) (f : Mgs) : TGs := fun v σ H Q => ∃ lv φ env x env', EnvR G lv φ H env σ ∧ RVs G lv φ H x v ∧ f x env = some env' ∧ ∀ σ', EnvR G lv φ H env' σ' → OnlyAt ws σ σ' → Q σ' H
def gN (i : Nat) : Mg := fun x env => some (env.set i (some x))
def gNil' : Mgs := fun xs env => match xs with
  | [] => some env
  | _ => none
def gCons' (f : Mg) (g : Mgs) : Mgs := fun xs env => match xs with
  | x :: r => (f x env).bind (g r)
  | _ => none
/-- of a tuple, a list -/
def gSeq (f : Mgs) : Mg := fun x env => match x with
  | .tup xs => f xs env
  | .lst xs => f xs env
  | .tpx xs => f xs env
  | _ => none
section
variable {X : Cx} {G : Gx} {pos : Pos} {e : Expr} {es : List Expr} {ws us : List Nat} {f : Mg} {g : Mgs}
theorem g_name {i : Nat} {x : Str} (hN : X.N.Nodup) (hi : X.N[i]? = some x) (hx : Loc X.env.scope x) (hf : X.fn x = true ∨ X.env.scope.names.lookup x = some .local := by first | exact .inl rfl | exact .inr rfl | assumption) : PG X (.Name x pos) (rG G [i] (gN i)) := by
  refine PGimp (pg_name hN hi hx hf) fun v σ H Q ⟨lv, φ, env, x, env', E, r, e, q⟩ => ?_
  cases e
  refine q _ (E.set r) ⟨by rw [List.length_set], fun j n => ?_⟩
  rw [List.getElem?_set_ne]
  intro z
  exact n (by simp [z])
theorem gs_nil : PGs X [] (rGs G [] gNil') := by
  refine PGsimp pgs_nil fun v σ H Q ⟨lv, φ, env, x, env', E, r, e, q⟩ => ?_
  cases x with
  | nil =>
    cases e
    simp only [RVs] at r
    exact ⟨r, q _ E .refl⟩
  | cons y ys => cases e
theorem gs_cons (h1 : PG X e (rG G ws f)) (h2 : PGs X es (rGs G us g)) (hs : (assignEach (e :: es) X.env).map (·.2) = assign e X.env :: (assignEach es X.env).map (·.2) := by rfl) : PGs X (e :: es) (rGs G (ws ++ us) (gCons' f g)) := by
  refine PGsimp (pgs_cons h1 h2 hs) fun v σ H Q ⟨lv, φ, env, x, env', E, r, e, q⟩ => ?_
  cases x with
  | nil => cases e
  | cons y ys =>
    simp only [RVs] at r
    obtain ⟨u, us, rfl, r1, r2⟩ := r
    simp only [gCons'] at e
    obtain ⟨env1, e1, e2⟩ := Option.bind_eq_some_iff.mp e
    exact ⟨u, us, rfl, lv, φ, env, y, env1, E, r1, e1, fun σ' E' o1 => ⟨lv, φ, env1, ys, env', E', r2, e2, fun σ2 E2 o2 => q σ2 E2 (o1.trans o2)⟩⟩
theorem gs_len {lv : Addr → Prop} {φ : List Addr} {H : Hp} : True := trivial
/-- (a, b, ..) = a tuple, a list -/
theorem g_seq {k : Nat} {n : Nat} (hK : G.K = X.K) (hc : X.calm = true) (h : PGs X es (rGs G ws g)) (hn : (assignEach es X.env).length = n := by rfl) (hst : (assignEach es X.env).findIdx? (·.1) = none := by rfl) :
    PG X (.Tuple es k pos) (rG G ws (gSeq fun xs env => if xs.length = n then g xs env else none)) := by
  refine ⟨fun pins s σ H v u Q I r hw => ?_⟩
  obtain ⟨lv, φ, env, x, env', E, rx, e, q⟩ := hw
  cases x with
  | tup xs =>
    simp only [gSeq] at e
    split at e
    · rename_i hl
      simp only [RV] at rx
      obtain ⟨p, vs, rfl, hq, rs⟩ := rx
      exact (pg_tup hc h hn hst).run pins s σ H _ u Q I r ⟨p, vs, rfl, hK ▸ hq, by rw [rs.length, hl], lv, φ, env, xs, env', E, rs, e, q⟩
    · cases e
  | tpx xs =>
    simp only [gSeq] at e
    split at e
    · rename_i hl
      simp only [RV] at rx
      obtain ⟨p, vs, rfl, hq, rs⟩ := rx
      exact (pg_tup hc h hn hst).run pins s σ H _ u Q I r ⟨p, vs, rfl, hq.sq, by rw [rs.length, hl], lv, φ, env, xs, env', E, rs, e, q⟩
    · cases e
  | lst xs =>
    simp only [gSeq] at e
    split at e
    · rename_i hl
      simp only [RV] at rx
      obtain ⟨p, vs, rfl, _, hq, rs⟩ := rx
      exact (pg_lst hc h hn hst).run pins s σ H _ u Q I r ⟨p, vs, rfl, SqL.of hq, by rw [rs.length, hl], lv, φ, env, xs, env', E, rs, e, q⟩
    · cases e
  | _ => cases e
end

/-! ### an object outside, that is written -/
def Oth (O : Addr → Prop) (D : Addr) : Addr → Prop := fun a => O a ∨ a = D
structure GoW (G : Gx) (O O' : Addr → Prop) (h : IH) (φ : List Addr) (H : Hp) (h' : IH) (φ' : List Addr) (H' : Hp) : Prop where
  rep : Rep G O' h' φ' H'
  ext : Ext (Lv O h φ) φ H (Lv O' h' φ') φ' H'
  outk : ∀ a, O a → H' a = H a
section
variable {G : Gx} {O O' : Addr → Prop} {h h' h2 : IH} {φ φ' φ2 : List Addr} {H H' H2 : Hp} {D : Addr} {ho : HO}
theorem lv_oth {a : Addr} : Lv (Oth O D) h φ a ↔ Lv O h φ a ∨ a = D := by
  constructor
  · rintro ((l | l) | l)
    · exact .inl (.inl l)
    · exact .inr l
    · exact .inl (.inr l)
  · rintro ((l | l) | l)
    · exact .inl (.inl l)
    · exact .inr l
    · exact .inl (.inr l)
/-- D new, and outside -/
theorem Rep.outer (R : Rep G O h φ H) (n : H D = none) (mu : Mut (some ho)) : GoW G O (Oth O D) h φ H h φ (upd H D ho) := by
  have np : ∀ b, Lv O h φ b → b ≠ D := fun b l z => by
    have m := R.ok b l
    rw [z, n] at m
    exact m
  have x : Ext (Lv O h φ) φ H (Lv (Oth O D) h φ) φ (upd H D ho) := by
    refine ⟨fun b u e _ => by rw [upd_ne (ne_of_none e n)]; exact e, fun b u e nl l => ?_, [], by simp⟩
    rcases lv_oth.mp l with l | rfl
    · exact nl l
    · rw [n] at e
      cases e
  refine ⟨⟨R.len, R.nd, fun b ob => ?_, fun i b u e1 e2 ob => ?_, fun i u b e1 e2 => (R.obj i u b e1 e2).mono x R.ok (upd_ne (np b (.inr ⟨i, u, e1, e2⟩)))⟩, x, fun b ob => upd_ne (np b (.inl ob))⟩
  · rcases ob with ob | rfl
    · rw [upd_ne (np b (.inl ob))]
      exact R.out b ob
    · rw [upd_same]
      exact mu
  · rcases ob with ob | rfl
    · exact R.dis i b u e1 e2 ob
    · exact np b (.inr ⟨i, u, e1, e2⟩) rfl
/-- D outside, written -/
theorem Rep.outset (R : Rep G O' h φ H) (d : O' D) (nO : ¬ O D) (mu : Mut (some ho)) (sub : ∀ a, O a → O' a) : Rep G O' h φ (upd H D ho) ∧ Ext (Lv O' h φ) φ H (Lv O' h φ) φ (upd H D ho) ∧ ∀ a, O a → upd H D ho a = H a := by
  have x : Ext (Lv O' h φ) φ H (Lv O' h φ) φ (upd H D ho) := ext_write (.inl d)
  have np : ∀ (i : Nat) (u : IO) (b : Addr), h[i]? = some (some u) → φ[i]? = some b → b ≠ D := fun i u b e1 e2 z => R.dis i b u e1 e2 (z ▸ d)
  refine ⟨⟨R.len, R.nd, fun b ob => ?_, R.dis, fun i u b e1 e2 => (R.obj i u b e1 e2).mono x R.ok (upd_ne (np i u b e1 e2))⟩, x, fun b ob => upd_ne fun z => nO (z ▸ ob)⟩
  by_cases z : b = D
  · rw [z, upd_same]
    exact mu
  · rw [upd_ne z]
    exact R.out b ob
theorem GoW.go (a : GoW G O O' h φ H h' φ' H') (sub : ∀ a, O a → O' a) (b : Go G O' h' φ' H' h2 φ2 H2) : GoW G O O' h φ H h2 φ2 H2 :=
  ⟨b.rep, a.ext.trans b.ext, fun x o => (b.outk x (sub x o)).trans (a.outk x o)⟩
theorem GoW.set (a : GoW G O O' h φ H h' φ' H') (d : O' D) (nO : ¬ O D) (mu : Mut (some ho)) (sub : ∀ a, O a → O' a) : GoW G O O' h φ H h' φ' (upd H' D ho) :=
  let ⟨r, x, k⟩ := a.rep.outset d nO mu sub
  ⟨r, a.ext.trans x, fun b o => (k b o).trans (a.outk b o)⟩
/-- what was outside for a while -/
theorem Rep.drop (R : Rep G O' h φ H) (sub : ∀ a, O a → O' a) : Rep G O h φ H ∧ Ext (Lv O' h φ) φ H (Lv O h φ) φ H := by
  have x : Ext (Lv O' h φ) φ H (Lv O h φ) φ H := ⟨fun _ _ e _ => e, fun b u e nl l => nl (l.elim (fun l => .inl (sub b l)) .inr), [], by simp⟩
  exact ⟨⟨R.len, R.nd, fun b ob => R.out b (sub b ob), fun i b u e1 e2 ob => R.dis i b u e1 e2 (sub b ob), fun i u b e1 e2 => (R.obj i u b e1 e2).mono x R.ok rfl⟩, x⟩
theorem GoW.drop (a : GoW G O O' h φ H h' φ' H') (sub : ∀ a, O a → O' a) : Go G O h φ H h' φ' H' :=
  let ⟨r, x⟩ := a.rep.drop sub
  ⟨r, a.ext.trans x, a.outk⟩
end
theorem post_ok {α β : Type} {rel : Rel α β} {G : Gx} {O : Addr → Prop} {h h' : IH} {φ : List Addr} {H : Hp} {r : Res α} {a : α} {Q : β → Hp → Prop} (e : r = .ok a h') (q : ∀ φ' H' v, Go G O h φ H h' φ' H' → rel (Lv O h' φ') φ' H' a v → Q v H') : Post rel G O h φ H r Q := by
  subst e
  exact q
theorem bind_ok {α β : Type} {r : Res α} {f : α → IH → Res β} {b : β} {h : IH} (e : r.bind f = .ok b h) : ∃ a h1, r = .ok a h1 ∧ f a h1 = .ok b h := by
  cases r with
  | ok a h1 => exact ⟨a, h1, rfl, e⟩
  | bad => cases e

/-! ### a list comprehension -/
def lcLoop (g : Mg) (c : Mb) (e : Mv) (env : Env) : List IV → IH → Res (List IV)
  | [], h => .ok [] h
  | x :: xs, h => match g x env with
    | none => .bad
    | some env1 => (c env1 h).bind fun b h1 => if b = true then (e env1 h1).bind fun y h2 => (lcLoop g c e env xs h2).bind fun ys h3 => .ok (y :: ys) h3 else lcLoop g c e env xs h1
def mLc (src : Mi) (g : Mg) (own : List Nat) (c : Mb) (e : Mv) : Mv := fun env h => (src env h).bind fun xs h1 =>
  if xs.length ≤ sizeLine then (lcLoop g c e (wipeI env own) xs h1).bind fun ys h2 => .ok (.lst ys) h2 else .bad
theorem lc_run {G : Gx} {O : Addr → Prop} {h1 h2 : IH} {φ1 : List Addr} {H1 : Hp} {J : It} {xs ys : List IV} {g : Mg} {c : Mb} {e : Mv} {env : Env} {σ : L2.St} {ws own : List Nat} {D : Addr} {Qd : Hp → Prop}
    (R : Rep G O h1 φ1 H1) (E : EnvR G (Lv O h1 φ1) φ1 H1 env σ) (it : IterOk G (Lv O h1 φ1) φ1 H1 xs J) (hz : xs.length ≤ sizeLine) (hw : ∀ i ∈ ws, i ∈ own) (nD : H1 D = none)
    (run : lcLoop g c e (wipeI env own) xs h1 = .ok ys h2) (fin : ∀ φ2 H2, Go G O h1 φ1 H1 h2 φ2 H2 → RV G (Lv O h2 φ2) φ2 H2 (.lst ys) (.ref D) → Qd H2) :
    ∃ W : Nat → Nat → Hp → Prop, (∃ m, W 0 m (upd H1 D (.lst []))) ∧ ∀ i m H, W i m H →
      (J.stop i H ∧ Qd H) ∨ (J.go i H ∧ ∃ Nx : Hp → Prop, (∀ H', Nx H' → ∃ m', m' < m ∧ W (i + 1) m' H') ∧ ∀ x H', J.yld i H x H' → rG G ws g x (wipe σ own) H' fun σ2 H2 => wipe σ2 own = wipe σ own ∧ rT G c σ2 H2 fun b H3 =>
        if b = true then rE G e σ2 H3 fun y H4 => ∃ acc, H4 D = some (.lst acc) ∧ acc.length < sizeLine ∧ Nx (upd H4 D (.lst (acc ++ [y]))) else Nx H3) := by
  have nO : ¬ O D := fun o => by
    have m := R.out D o
    rw [nD] at m
    exact m
  have sub : ∀ a, O a → Oth O D a := fun a o => .inl o
  have dD : Oth O D D := .inr rfl
  have tr : Mut (some (.lst [])) := trivial
  have w0 := R.outer (ho := .lst []) nD tr
  have wk : Walk J xs.length (fun H => (∀ i, i < xs.length → J.go i H) ∧ J.stop xs.length H) J.yld := ⟨fun i H hi q => q.1 i hi, fun H q => q.2, fun i H x H' _ _ y => y⟩
  refine lc_it wk (fun i H => ∃ h φ acc accI rest, GoW G O (Oth O D) h1 φ1 H1 h φ H ∧ H D = some (.lst acc) ∧ RVs G (Lv (Oth O D) h φ) φ H accI acc ∧ acc.length ≤ i ∧ lcLoop g c e (wipeI env own) (xs.drop i) h = .ok rest h2 ∧ ys = accI ++ rest)
    ⟨h1, φ1, [], [], ys, w0, upd_same, by simp only [RVs], Nat.le_refl _, run, rfl⟩ ?_ ?_ ?_
  · rintro i H _ ⟨h, φ, acc, accI, rest, w, _⟩
    obtain ⟨a, b, _⟩ := it _ _ _ w.ext w.rep.ok
    exact ⟨a, b⟩
  · rintro i x H H' hi ⟨h, φ, acc, accI, rest, w, eD, rA, hl, lp, ey⟩ yl
    obtain ⟨_, _, iy⟩ := it _ _ _ w.ext w.rep.ok
    obtain ⟨sm, y, ex, ry⟩ := iy i x H' hi yl
    have g0 : Go G (Oth O D) h φ H h φ H' := Go.same w.rep sm
    have w' := w.go sub g0
    have ed : xs.drop i = y :: xs.drop (i + 1) := by
      rw [List.drop_eq_getElem_cons hi]
      rw [List.getElem?_eq_getElem hi] at ex
      rw [Option.some.inj ex]
    rw [ed] at lp
    simp only [lcLoop] at lp
    cases q : g y (wipeI env own) with
    | none =>
      rw [q] at lp
      cases lp
    | some env1 =>
      rw [q] at lp
      obtain ⟨b, h3, e1, lp⟩ := bind_ok lp
      have E' : EnvR G (Lv (Oth O D) h φ) φ H' (wipeI env own) (wipe σ own) := EnvR.wipe ⟨E.1, fun j z zz => let ⟨v, a1, a2⟩ := E.2 j z zz; ⟨v, a1, RV.mono w'.ext R.ok z a2⟩⟩ own
      refine ⟨_, φ, wipeI env own, y, env1, E', ry, q, fun σ2 E2 o2 => ⟨((o2.mono hw).wipe).trans (onlyAt_wipe.wipe), Oth O D, h, φ, env1, w'.rep, E2, post_ok e1 fun φ3 H3 v g3 rb => ?_⟩⟩
      have rb' : v = b := rb
      subst rb'
      have w3 := w'.go sub g3
      have eD3 : H3 D = some (.lst acc) := by rw [g3.outk D dD, g0.outk D dD]; exact eD
      have rA3 := RVs.mono (g0.ext.trans g3.ext) w.rep.ok _ rA
      cases v with
      | false =>
        simp only [Bool.false_eq_true, if_false] at lp
        rw [if_neg (by decide)]
        exact ⟨h3, φ3, acc, accI, rest, w3, eD3, rA3, by omega, lp, ey⟩
      | true =>
        simp only [if_true] at lp
        rw [if_pos rfl]
        obtain ⟨z, h4, e2, lp⟩ := bind_ok lp
        obtain ⟨zs, h5, e3, lp⟩ := bind_ok lp
        cases lp
        refine ⟨Oth O D, h3, φ3, env1, w3.rep, E2.go w'.rep g3, post_ok e2 fun φ4 H4 u g4 rz => ?_⟩
        have w4 := w3.go sub g4
        have eD4 : H4 D = some (.lst acc) := by rw [g4.outk D dD]; exact eD3
        have rA4 := RVs.mono g4.ext w3.rep.ok _ rA3
        refine ⟨acc, eD4, by omega, h4, φ4, acc ++ [u], accI ++ [z], zs, w4.set dD nO trivial sub, upd_same, ?_, by simp; omega, e3, by rw [ey]; simp⟩
        obtain ⟨_, x5, _⟩ := w4.rep.outset (ho := .lst (acc ++ [u])) dD nO trivial sub
        exact RVs.mono x5 w4.rep.ok _ (rA4.snoc rz)
  · rintro H ⟨h, φ, acc, accI, rest, w, eD, rA, hl, lp, ey⟩
    rw [List.drop_length] at lp
    simp only [lcLoop] at lp
    cases lp
    rw [List.append_nil] at ey
    subst ey
    have gd := w.drop sub
    obtain ⟨_, xd⟩ := w.rep.drop sub
    refine fin φ H gd ?_
    simp only [RV]
    refine ⟨D, acc, rfl, fun l => ?_, eD, RVs.mono xd w.rep.ok _ rA⟩
    rcases l with l | ⟨i, u, e1, e2⟩
    · exact nO l
    · exact w.rep.dis i D u e1 e2 dD
section
variable {X : Cx} {G : Gx} {elt tg iter : Expr} {ifs : List Expr} {scope : Scope} {own : List (Str × Nat)} {pos spos : Pos} {src : Mi} {g : Mg} {ws : List Nat} {c : Mb} {e : Mv}
theorem lc_rd {σ : L2.St} {H : Hp} {Q : VK} (hw : ∀ i ∈ ws, i ∈ own.map (·.2)) (q : rE G (mLc src g (own.map (·.2)) c e) σ H Q) : tLc (rI G src) (rG G ws g) (rT G c) (rE G e) (own.map (·.2)) σ H Q := by
  obtain ⟨O, h, φ, env, R, E, P⟩ := q
  refine ⟨O, h, φ, env, R, E, (P.bind (rel := relI G)).mono fun J H1 ⟨xs, h1, φ1, _, g1, it, P1⟩ D nD => ?_⟩
  have P2 : Post (relV G) G O h1 φ1 H1 (if xs.length ≤ sizeLine then (lcLoop g c e (wipeI env (own.map (·.2))) xs h1).bind fun ys h2 => .ok (.lst ys) h2 else .bad) Q := P1
  by_cases hz : xs.length ≤ sizeLine
  · rw [if_pos hz] at P2
    cases q : lcLoop g c e (wipeI env (own.map (·.2))) xs h1 with
    | bad =>
      rw [q] at P2
      exact P2.elim
    | ok ys h2 =>
      rw [q] at P2
      exact lc_run g1.rep (E.go R g1) it hz hw nD q fun φ2 H2 g2 r2 => P2 φ2 H2 _ g2 r2
  · rw [if_neg hz] at P2
    exact P2.elim
theorem s_lc (hc : X.calm = true) (hN : X.N.Nodup) (hi : PI X tg iter (rI G src)) (ok : BlkOk X.N X.env.scope scope own) (hw : ∀ i ∈ ws, i ∈ own.map (·.2))
    (hg : ∀ (s : Shared) (H : Hp) (C : Addr) (cl : List (Str × Addr)) (fp : List Addr), PG (X.blk s H scope (compEnvC scope cl C X.env) fp) tg (rG G ws g)) (ht : ∀ (s : Shared) (H : Hp) (C : Addr) (cl : List (Str × Addr)) (fp : List Addr), PTs (X.blk s H scope (compEnvC scope cl C X.env) fp) ifs (rT G c))
    (he : ∀ (s : Shared) (H : Hp) (C : Addr) (cl : List (Str × Addr)) (fp : List Addr), PE (X.blk s H scope (compEnvC scope cl C X.env) fp) elt (rE G e)) (hs : ∀ x, foldedSetIterable iter X.env x = pure x := by intro _; rfl) :
    PE X (.ListComp elt [⟨tg, iter, ifs, 0⟩] scope pos) (rE G (mLc src g (own.map (·.2)) c e)) :=
  PEimp (pe_lc hc hN hi ok hg ht he hs) fun σ H Q q => lc_rd hw q
def mYes : Mb := fun _ h => .ok true h
theorem pts_yes : PTs X [] (rT G mYes) := ⟨fun pins s σ H Q I ⟨O, h, φ, env, R, E, P⟩ => pts_nil.run pins s σ H Q I (P φ H true (Go.refl R) rfl)⟩
end
end Iv

/-! IvL: statements. -/
namespace Iv
open PySem PySem.Spec PyProof.Rows L2

inductive Fl where
  | nx | bk | ct | rt (v : IV)
inductive FlV where
  | nx | bk | ct | rt (v : V)
def relF (G : Gx) : Rel (Fl × Env) (FlV × L2.St) := fun lv φ H x y => match x, y with
  | (.nx, e), (.nx, σ) => EnvR G lv φ H e σ
  | (.bk, e), (.bk, σ) => EnvR G lv φ H e σ
  | (.ct, e), (.ct, σ) => EnvR G lv φ H e σ
  | (.rt a, _), (.rt v, _) => RV G lv φ H a v
  | _, _ => False
def endsQ (D : Ends) : FlV × L2.St → Hp → Prop := fun y H => match y with
  | (.nx, σ) => D.nx σ H
  | (.bk, σ) => D.bk σ H
  | (.ct, σ) => D.ct σ H
  | (.rt v, _) => D.rt v H
abbrev Ms := Env → IH → Res (Fl × Env)
def rS (G : Gx) (f : Ms) : TS := fun D σ H => ∃ O h φ env, Rep G O h φ H ∧ EnvR G (Lv O h φ) φ H env σ ∧ Post (relF G) G O h φ H (f env h) (endsQ D)
section
variable {X : Cx} {G : Gx} {st : Stmt} {rest : List Stmt} {pos : Pos} {e c : Expr} {fs gs : Ms} {f f2 : Mv} {tc : Mb}
def mNx : Ms := fun env h => .ok (.nx, env) h
def mThen (f g : Ms) : Ms := fun env h => (f env h).bind fun r h1 => match r with
  | (.nx, env1) => g env1 h1
  | r => .ok r h1
theorem ss_nil : PSs X [] (rS G mNx) := PSsimp pss_nil fun D σ H ⟨O, h, φ, env, R, E, P⟩ => P φ H (.nx, σ) (Go.refl R) E
theorem ss_cons (h1 : PS X st (rS G fs)) (h2 : PSs X rest (rS G gs)) : PSs X (st :: rest) (rS G (mThen fs gs)) := by
  refine PSsimp (pss_cons h1 h2) fun D σ H ⟨O, h, φ, env, R, E, P⟩ => ?_
  refine ⟨O, h, φ, env, R, E, (P.bind (rel := relF G)).mono fun v H1 ⟨x, h1, φ1, _, g1, r1, P1⟩ => ?_⟩
  obtain ⟨x, env1⟩ := x
  obtain ⟨v, σ1⟩ := v
  cases x with
  | nx =>
    cases v with
    | nx => exact ⟨O, h1, φ1, env1, g1.rep, r1, P1⟩
    | _ => exact r1.elim
  | bk =>
    cases v with
    | bk => exact P1 φ1 H1 (.bk, σ1) (Go.refl g1.rep) r1
    | _ => exact r1.elim
  | ct =>
    cases v with
    | ct => exact P1 φ1 H1 (.ct, σ1) (Go.refl g1.rep) r1
    | _ => exact r1.elim
  | rt a =>
    cases v with
    | rt v => exact P1 φ1 H1 (.rt v, σ1) (Go.refl g1.rep) r1
    | _ => exact r1.elim
theorem ss_one (h1 : PS X st (rS G fs)) : PSs X [st] (rS G fs) := pss_one h1
theorem s_pass : PS X (.Pass pos) (rS G mNx) := PSimp ps_pass fun D σ H ⟨O, h, φ, env, R, E, P⟩ => P φ H (.nx, σ) (Go.refl R) E
def mBk : Ms := fun env h => .ok (.bk, env) h
def mCt : Ms := fun env h => .ok (.ct, env) h
theorem s_break : PS X (.Break pos) (rS G mBk) := PSimp ps_break fun D σ H ⟨O, h, φ, env, R, E, P⟩ => P φ H (.bk, σ) (Go.refl R) E
theorem s_cont : PS X (.Continue pos) (rS G mCt) := PSimp ps_continue fun D σ H ⟨O, h, φ, env, R, E, P⟩ => P φ H (.ct, σ) (Go.refl R) E
def mBad : Ms := fun _ _ => .bad
theorem s_never : PS X st (rS G mBad) := PSimp ps_never fun D σ H ⟨O, h, φ, env, R, E, P⟩ => P
theorem ss_never : PSs X rest (rS G mBad) := PSsimp pss_never fun D σ H ⟨O, h, φ, env, R, E, P⟩ => P
theorem s_doc {x j pos'} : PS X (.Expr (.Constant (.str x) j pos) pos') (rS G mNx) := PSimp ps_doc fun D σ H ⟨O, h, φ, env, R, E, P⟩ => P φ H (.nx, σ) (Go.refl R) E
def mEx (f : Mv) : Ms := fun env h => (f env h).bind fun _ h1 => .ok (.nx, env) h1
theorem s_expr (he : PE X e (rE G f)) (hs : swapsWith e none pos.line X.env = pure false := by rfl) : PS X (.Expr e pos) (rS G (mEx f)) := by
  refine PSimp (ps_expr he hs) fun D σ H ⟨O, h, φ, env, R, E, P⟩ => ?_
  exact ⟨O, h, φ, env, R, E, (P.bind (rel := relV G)).mono fun v H1 ⟨x, h1, φ1, _, g1, r1, P1⟩ => P1 φ1 H1 (.nx, σ) (Go.refl g1.rep) (E.go R g1)⟩
def mRet (f : Mv) : Ms := fun env h => (f env h).bind fun x h1 => .ok (.rt x, env) h1
theorem s_ret (he : PE X e (rE G f)) : PS X (.Return (some e) pos) (rS G (mRet f)) := by
  refine PSimp (ps_ret he) fun D σ H ⟨O, h, φ, env, R, E, P⟩ => ?_
  exact ⟨O, h, φ, env, R, E, (P.bind (rel := relV G)).mono fun v H1 ⟨x, h1, φ1, _, g1, r1, P1⟩ => P1 φ1 H1 (.rt v, σ) (Go.refl g1.rep) r1⟩
def mRetN : Ms := fun env h => .ok (.rt .non, env) h
theorem s_retN : PS X (.Return none pos) (rS G mRetN) := PSimp ps_retN fun D σ H ⟨O, h, φ, env, R, E, P⟩ => P φ H (.rt .non, σ) (Go.refl R) (by simp only [relF, RV])
def mIfS (t : Mb) (f g : Ms) : Ms := fun env h => (t env h).bind fun b h1 => if b = true then f env h1 else g env h1
theorem s_ifS {a b : List Stmt} (hc : PT X c (rT G tc)) (ha : PSs X a (rS G fs)) (hb : PSs X b (rS G gs)) : PS X (.If c a b pos) (rS G (mIfS tc fs gs)) := by
  refine PSimp (ps_if hc ha hb) fun D σ H ⟨O, h, φ, env, R, E, P⟩ => ?_
  refine ⟨O, h, φ, env, R, E, (P.bind (rel := relB)).mono fun v H1 ⟨x, h1, φ1, _, g1, r1, P1⟩ => ?_⟩
  have r1' : v = x := r1
  subst r1'
  cases v with
  | true => exact iteT ⟨O, h1, φ1, env, g1.rep, E.go R g1, P1⟩
  | false => exact iteF ⟨O, h1, φ1, env, g1.rep, E.go R g1, P1⟩
/-! ### stores -/
def mSet (i : Nat) (f : Mv) : Ms := fun env h => (f env h).bind fun x h1 => .ok (.nx, env.set i (some x)) h1
theorem set_rd {i : Nat} {te : TE} (himp : ∀ σ H Q, rE G f σ H Q → te σ H Q) {D : Ends} {σ : L2.St} {H : Hp} (q : rS G (mSet i f) D σ H) : tAsg te (gName i) D σ H := by
  obtain ⟨O, h, φ, env, R, E, P⟩ := q
  exact himp _ _ _ ⟨O, h, φ, env, R, E, (P.bind (rel := relV G)).mono fun v H1 ⟨x, h1, φ1, _, g1, r1, P1⟩ => P1 φ1 H1 (.nx, σ.set i (some v)) (Go.refl g1.rep) ((E.go R g1).set r1)⟩
theorem s_set {i : Nat} {x : Str} {pos' : Pos} (hN : X.N.Nodup) (hi : X.N[i]? = some x) (hx : Loc X.env.scope x) (he : PE X e (rE G f)) (hs : swapsWith e (some (.Name x pos')) pos.line X.env = pure false := by rfl) (hf : X.fn x = true ∨ X.env.scope.names.lookup x = some .local := by first | exact .inl rfl | exact .inr rfl | assumption) :
    PS X (.Assign [.Name x pos'] e pos) (rS G (mSet i f)) := PSimp (ps_set hN hi hx he hs hf) fun D σ H q => set_rd (fun _ _ _ q => q) q
/-- name = [..], the name a local -/
theorem s_setLc {i : Nat} {y : Str} {py : Pos} {elt tg iter : Expr} {ifs : List Expr} {scope : Scope} {own : List (Str × Nat)} {spos : Pos} {src : Mi} {g : Mg} {ws : List Nat} {c : Mb} (hc : X.calm = true) (hN : X.N.Nodup) (hy : X.N[i]? = some y) (hyl : X.env.scope.names.lookup y = some .local)
    (hsw : swapsWith (.ListComp elt [⟨tg, iter, ifs, 0⟩] scope pos) (some (.Name y py)) spos.line X.env = pure true) (hi : PI X tg iter (rI G src)) (ok : BlkOk X.N X.env.scope scope own) (hw : ∀ i ∈ ws, i ∈ own.map (·.2))
    (hg : ∀ (s : Shared) (H : Hp) (C : Addr) (cl : List (Str × Addr)) (fp : List Addr), PG (X.blk s H scope (compEnvC scope cl C X.env) fp) tg (rG G ws g)) (ht : ∀ (s : Shared) (H : Hp) (C : Addr) (cl : List (Str × Addr)) (fp : List Addr), PTs (X.blk s H scope (compEnvC scope cl C X.env) fp) ifs (rT G c))
    (he : ∀ (s : Shared) (H : Hp) (C : Addr) (cl : List (Str × Addr)) (fp : List Addr), PE (X.blk s H scope (compEnvC scope cl C X.env) fp) elt (rE G f)) (hs : ∀ x, foldedSetIterable iter X.env x = pure x := by intro _; rfl) :
    PS X (.Assign [.Name y py] (.ListComp elt [⟨tg, iter, ifs, 0⟩] scope pos) spos) (rS G (mSet i (mLc src g (own.map (·.2)) c f))) :=
  PSimp (ps_setLc hc hN hy hyl hsw hi ok hg ht he hs) fun D σ H q => set_rd (fun _ _ _ q => lc_rd hw q) q
def mAsg (g : Mg) (f : Mv) : Ms := fun env h => (f env h).bind fun x h1 => match g x env with
  | some env1 => .ok (.nx, env1) h1
  | none => .bad
theorem s_asg {tg : Expr} {g : Mg} {ws : List Nat} (he : PE X e (rE G f)) (hg : PG X tg (rG G ws g)) (hs : swapsWithSole [tg] e pos.line X.env = pure false := by rfl) (hw : swappedStores [tg] e X.env = pure none := by rfl)
    (h1 : (assignEach [tg] X.env).map (·.2) = [assign tg X.env] := by rfl) : PS X (.Assign [tg] e pos) (rS G (mAsg g f)) := by
  refine PSimp (ps_asg he hg hs hw h1) fun D σ H ⟨O, h, φ, env, R, E, P⟩ => ?_
  refine ⟨O, h, φ, env, R, E, (P.bind (rel := relV G)).mono fun v H1 ⟨x, h1, φ1, _, g1, r1, P1⟩ => ?_⟩
  cases q : g x env with
  | none =>
    rw [q] at P1
    exact P1.elim
  | some env1 =>
    rw [q] at P1
    exact ⟨_, _, env, x, env1, E.go R g1, r1, q, fun σ' E' _ => P1 φ1 H1 (.nx, σ') (Go.refl g1.rep) E'⟩
def mPar (i j : Nat) (f : Ma) : Ms := fun env h => (f env h).bind fun xs h1 => match xs with
  | [x, y] => .ok (.nx, (env.set i (some x)).set j (some y)) h1
  | _ => .bad
theorem s_par {i j : Nat} {x y : Str} {a b : Expr} {fa : Ma} {px py pt : Pos} {kt k2 pt2} (hc : X.calm = true) (hN : X.N.Nodup) (hi : X.N[i]? = some x) (hj : X.N[j]? = some y) (hij : i ≠ j)
    (hx : X.env.scope.names.lookup x = some .local) (hy : X.env.scope.names.lookup y = some .local) (ha : PA X [a, b] (rA G fa))
    (hw : swappedStores [.Tuple [.Name x px, .Name y py] kt pt] (.Tuple [a, b] k2 pt2) X.env = pure (some [x, y]))
    (hs : swapsWithSole [.Tuple [.Name x px, .Name y py] kt pt] (.Tuple [a, b] k2 pt2) pos.line X.env = pure false := by rfl) :
    PS X (.Assign [.Tuple [.Name x px, .Name y py] kt pt] (.Tuple [a, b] k2 pt2) pos) (rS G (mPar i j fa)) := by
  refine PSimp (ps_par hc hN hi hj hij hx hy ha hw hs) fun D σ H ⟨O, h, φ, env, R, E, P⟩ => ?_
  refine ⟨O, h, φ, env, R, E, (P.bind (rel := relA G)).mono fun v H1 ⟨x, h1, φ1, _, g1, r1, P1⟩ => ?_⟩
  match x, r1, P1 with
  | [x, y], r1, P1 =>
    simp only [relA, RVs] at r1
    obtain ⟨v1, r, rfl, ra, v2, r', rfl, rb, rfl⟩ := r1
    exact ⟨v1, v2, rfl, P1 φ1 H1 (.nx, (σ.set i (some v1)).set j (some v2)) (Go.refl g1.rep) (((E.go R g1).set ra).set rb)⟩
  | [], _, P1 => exact P1.elim
  | [_], _, P1 => exact P1.elim
  | _ :: _ :: _ :: _, _, P1 => exact P1.elim
def mPar3 (i j l : Nat) (f : Ma) : Ms := fun env h => (f env h).bind fun xs h1 => match xs with
  | [x, y, z] => .ok (.nx, ((env.set i (some x)).set j (some y)).set l (some z)) h1
  | _ => .bad
theorem s_par3 {i j l : Nat} {x y z : Str} {a b c : Expr} {fa : Ma} {px py pz pt pos : Pos} {kt k2 pt2} (hc : X.calm = true) (hN : X.N.Nodup) (hi : X.N[i]? = some x) (hj : X.N[j]? = some y) (hl : X.N[l]? = some z) (hij : i ≠ j) (hil : i ≠ l) (hjl : j ≠ l)
    (hx : X.env.scope.names.lookup x = some .local) (hy : X.env.scope.names.lookup y = some .local) (hz : X.env.scope.names.lookup z = some .local) (ha : PA X [a, b, c] (rA G fa))
    (hw : swappedStores [.Tuple [.Name x px, .Name y py, .Name z pz] kt pt] (.Tuple [a, b, c] k2 pt2) X.env = pure (some [x, y, z]))
    (hs : swapsWithSole [.Tuple [.Name x px, .Name y py, .Name z pz] kt pt] (.Tuple [a, b, c] k2 pt2) pos.line X.env = pure false := by rfl) :
    PS X (.Assign [.Tuple [.Name x px, .Name y py, .Name z pz] kt pt] (.Tuple [a, b, c] k2 pt2) pos) (rS G (mPar3 i j l fa)) := by
  refine PSimp (ps_par3 hc hN hi hj hl hij hil hjl hx hy hz ha hw hs) fun D σ H ⟨O, h, φ, env, R, E, P⟩ => ?_
  refine ⟨O, h, φ, env, R, E, (P.bind (rel := relA G)).mono fun v H1 ⟨x, h1, φ1, _, g1, r1, P1⟩ => ?_⟩
  match x, r1, P1 with
  | [x, y, z], r1, P1 =>
    simp only [relA, RVs] at r1
    obtain ⟨v1, r, rfl, ra, v2, r', rfl, rb, v3, r2', rfl, rc, rfl⟩ := r1
    exact ⟨v1, v2, v3, rfl, P1 φ1 H1 (.nx, ((σ.set i (some v1)).set j (some v2)).set l (some v3)) (Go.refl g1.rep) ((((E.go R g1).set ra).set rb).set rc)⟩
  | [], _, P1 => exact P1.elim
  | [_], _, P1 => exact P1.elim
  | [_, _], _, P1 => exact P1.elim
  | _ :: _ :: _ :: _ :: _, _, P1 => exact P1.elim
/-- from here on the object that stands in slot i changes no more -/
def mFz (i : Nat) (f : Ms) : Ms := fun env h => match env[i]? with
  | some (some (.ref n)) => match h[n]? with
    | some (some o) => f (env.set i (some (viewO o))) (h.set n none)
    | _ => .bad
  | _ => .bad
theorem ss_fz {sts : List Stmt} {i : Nat} (hs : PSs X sts (rS G fs)) : PSs X sts (rS G (mFz i fs)) := by
  refine PSsimp hs fun D σ H ⟨O, h, φ, env, R, E, P⟩ => ?_
  unfold mFz at P
  split at P
  · rename_i n e1
    split at P
    · rename_i o e2
      obtain ⟨v, e3, e4⟩ := E.2 i _ e1
      simp only [RV] at e4
      obtain ⟨a, e4, rfl⟩ := e4
      have g := R.kill (n := n)
      have r := frz_rv R e2 e4
      have E1 := E.go R g
      have E2 := E1.set (i := i) r
      have ez : σ.set i (some (.ref a)) = σ := by
        refine List.ext_getElem? fun j => ?_
        by_cases hj : i = j
        · subst hj
          rw [List.getElem?_set_self (List.getElem?_eq_some_iff.mp e3).1, e3]
        · rw [List.getElem?_set_ne hj]
      rw [ez] at E2
      exact ⟨O, h.set n none, φ, _, g.rep, E2, Post.go g P⟩
    · exact P.elim
  · exact P.elim
/-! ### a, b = .. of attributes and items -/
def mItem (fo fi fv : Mv) : Ms := fun env h => (fv env h).bind fun y h1 => (fo env h1).bind fun x h2 => (fi env h2).bind fun k h3 => match x, k with
  | .ref n, .int j => match h3[n]? with
    | some (some (.lst xs)) => match ixN xs.length j with
      | some m => .ok (.nx, env) (h3.set n (some (.lst (xs.set m y))))
      | none => .bad
    | _ => .bad
  | _, _ => .bad
theorem item_rd {fo fi : Mv} {D : Ends} {σ : L2.St} {H : Hp} (q : rS G (mItem fo fi f) D σ H) : tAsg (rE G f) (gSub (rE G fo) (rE G fi) rSetL) D σ H := by
  obtain ⟨O, h, φ, env, R, E, P⟩ := q
  refine ⟨O, h, φ, env, R, E, (P.bind (rel := relV G)).mono fun v H1 ⟨y, h1, φ1, _, g1, r1, P1⟩ => ?_⟩
  refine ⟨O, h1, φ1, env, g1.rep, E.go R g1, (P1.bind (rel := relV G)).mono fun v2 H2 ⟨x, h2, φ2, _, g2, r2, P2⟩ => ?_⟩
  refine ⟨O, h2, φ2, env, g2.rep, (E.go R g1).go g1.rep g2, (P2.bind (rel := relV G)).mono fun v3 H3 ⟨k, h3, φ3, _, g3, r3, P3⟩ => ?_⟩
  have r1' := relV.go g2.rep g3 (relV.go g1.rep g2 r1)
  have r2' := relV.go g2.rep g3 r2
  cases x with
  | ref n =>
    cases k with
    | int j =>
      simp only [relV, RV] at r2' r3
      obtain ⟨a, e1, rfl⟩ := r2'
      subst r3
      cases q : h3[n]? with
      | none =>
        simp only [q] at P3
        exact P3.elim
      | some oo =>
        cases oo with
        | none =>
          simp only [q] at P3
          exact P3.elim
        | some o =>
          cases o with
          | lst xs =>
            simp only [q] at P3
            cases qi : ixN xs.length j with
            | none =>
              simp only [qi] at P3
              exact P3.elim
            | some m =>
              simp only [qi] at P3
              obtain ⟨vs, e2, rs⟩ := g3.rep.obj n _ a q e1
              refine ⟨a, vs, j, m, rfl, rfl, e2, by rw [rs.length]; exact qi, ?_⟩
              have xw := ext_write (ho := .lst (vs.set m v)) (H := H3) (lv_at q e1 (O := O))
              have w := g3.rep.write (o' := .lst (xs.set m y)) (ho := .lst (vs.set m v)) q e1 trivial ⟨_, upd_same, RVs.mono xw g3.rep.ok _ (rs.set r1')⟩
              exact P3 φ3 _ (.nx, σ) w ((((E.go R g1).go g1.rep g2).go g2.rep g3).go g3.rep w)
          | _ =>
            simp only [q] at P3
            exact P3.elim
    | _ => exact P3.elim
  | _ => exact P3.elim
theorem s_item {o i : Expr} {fo fi : Mv} {tpos : Pos} (ho : PE X o (rE G fo)) (hi : PE X i (rE G fi)) (he : PE X e (rE G f)) (hs : swapsWithSole [.Subscript o i tpos] e pos.line X.env = pure false := by rfl) (hw : swappedStores [.Subscript o i tpos] e X.env = pure none := by rfl)
    (h1 : (assignEach [.Subscript o i tpos] X.env).map (·.2) = [assign (.Subscript o i tpos) X.env] := by rfl)
    (ha : ∀ v, assign (.Subscript o i tpos) X.env v = (do
      let ov ← holding [v] (eval o X.env)
      let iv ← holding [v, ov] (eval i X.env)
      standAt tpos
      holding [v, ov, iv] (setItem ov iv v)
      release [v, ov, iv] []) := by intro _; rfl) : PS X (.Assign [.Subscript o i tpos] e pos) (rS G (mItem fo fi f)) :=
  PSimp (ps_asg he (pg_sub ho hi set_list ha) hs hw h1) fun D σ H q => item_rd q
/-- self.f = value -/
def mFldS (n : Nat) (fo fv : Mv) : Ms := fun env h => (fv env h).bind fun y h1 => (fo env h1).bind fun x h2 => match x with
  | .ref k => match h2[k]? with
    | some (some (.ins c ns vs)) => if ns.length + 1 < 1000 then .ok (.nx, env) (h2.set k (some (.ins c (putI n y ns vs).1 (putI n y ns vs).2))) else .bad
    | _ => .bad
  | _ => .bad
theorem s_fldS {o : Expr} {pos' : Pos} {n : Nat} {fo fv : Mv} (F : Facts G) (hK : G.K = X.K) (hn : n < G.nf) (ho : PE X o (rE G fo)) (hv : PE X e (rE G fv)) (hs : swapsWith e (some (.Attribute o (G.fnm n) pos')) pos.line X.env = pure false := by rfl) :
    PS X (.Assign [.Attribute o (G.fnm n) pos'] e pos) (rS G (mFldS n fo fv)) := by
  refine PSimp (ps_fld ho hv hs) fun D σ H ⟨O, h, φ, env, R, E, P⟩ => ?_
  refine ⟨O, h, φ, env, R, E, (P.bind (rel := relV G)).mono fun v H1 ⟨y, h1, φ1, _, g1, r1, P1⟩ => ?_⟩
  refine ⟨O, h1, φ1, env, g1.rep, E.go R g1, (P1.bind (rel := relV G)).mono fun v2 H2 ⟨x, h2, φ2, _, g2, r2, P2⟩ => ?_⟩
  have r1' := relV.go g1.rep g2 r1
  cases x with
  | ref k =>
    simp only [relV, RV] at r2
    obtain ⟨a, e1, rfl⟩ := r2
    cases q : h2[k]? with
    | none =>
      simp only [q] at P2
      exact P2.elim
    | some oo =>
      cases oo with
      | none =>
        simp only [q] at P2
        exact P2.elim
      | some ob =>
        cases ob with
        | ins c ns vs =>
          simp only [q] at P2
          by_cases hl : ns.length + 1 < 1000
          · rw [if_pos hl] at P2
            obtain ⟨dx, fvs, e2, ok, rs⟩ := g2.rep.obj k _ a q e1
            obtain ⟨fvs', p1, p2, p3, p4, p5⟩ := put_of F hn r1' ok.2.2.2 ok.2.1 rs
            refine ⟨a, _, dx, _, rfl, e2, hK ▸ (F.cls c ok.1).cl, hK ▸ F.noat c n ok.1 hn, ?_, ?_⟩
            · have lz : ((ns.map G.fnm).zip fvs).length ≤ ns.length := by simp; omega
              omega
            · rw [p1]
              have xw := ext_write (ho := .ins (G.cad c) dx (((putI n y ns vs).1.map G.fnm).zip fvs')) (H := H2) (lv_at q e1 (O := O))
              have w := g2.rep.write (o' := .ins c (putI n y ns vs).1 (putI n y ns vs).2) (ho := .ins (G.cad c) dx (((putI n y ns vs).1.map G.fnm).zip fvs')) q e1 trivial ⟨dx, fvs', upd_same, ⟨ok.1, p3, by omega, p5⟩, RVs.mono xw g2.rep.ok _ p2⟩
              exact P2 φ2 _ (.nx, σ) w (((E.go R g1).go g1.rep g2).go g2.rep w)
          · rw [if_neg hl] at P2
            exact P2.elim
        | _ =>
          simp only [q] at P2
          exact P2.elim
  | _ => exact P2.elim
end
/-! ### loops -/
def forLoop (g : Mg) (b : Ms) : List IV → Env → IH → Res (Fl × Env)
  | [], env, h => .ok (.nx, env) h
  | x :: xs, env, h => match g x env with
    | none => .bad
    | some env1 => (b env1 h).bind fun r h1 => match r with
      | (.nx, env2) => forLoop g b xs env2 h1
      | (.ct, env2) => forLoop g b xs env2 h1
      | (.bk, env2) => .ok (.nx, env2) h1
      | (.rt v, env2) => .ok (.rt v, env2) h1
def mFor (src : Mi) (g : Mg) (b : Ms) : Ms := fun env h => (src env h).bind fun xs h1 => forLoop g b xs env h1
theorem for_run {G : Gx} {O : Addr → Prop} {h1 h2 : IH} {φ1 : List Addr} {H1 : Hp} {J : It} {xs : List IV} {g : Mg} {b : Ms} {env : Env} {r : Fl × Env} {σ : L2.St} {ws : List Nat} {D : Ends}
    (R : Rep G O h1 φ1 H1) (E : EnvR G (Lv O h1 φ1) φ1 H1 env σ) (it : IterOk G (Lv O h1 φ1) φ1 H1 xs J) (run : forLoop g b xs env h1 = .ok r h2)
    (fin : ∀ φ2 H2 y, Go G O h1 φ1 H1 h2 φ2 H2 → relF G (Lv O h2 φ2) φ2 H2 r y → endsQ D y H2) :
    ∃ W : Nat → Nat → L2.St → Hp → Prop, (∃ m, W 0 m σ H1) ∧ ∀ i m σ H, W i m σ H →
      (J.stop i H ∧ D.nx σ H) ∨ (J.go i H ∧ ∃ N : L2.St → Hp → Prop, (∀ σ' H', N σ' H' → ∃ m', m' < m ∧ W (i + 1) m' σ' H') ∧ ∀ x H', J.yld i H x H' → rG G ws g x σ H' fun σ2 H2 => rS G b { D with nx := N, ct := N, bk := D.nx } σ2 H2) := by
  have wk : Walk J xs.length (fun H => (∀ i, i < xs.length → J.go i H) ∧ J.stop xs.length H) J.yld := ⟨fun i H hi q => q.1 i hi, fun H q => q.2, fun i H x H' _ _ y => y⟩
  refine for_it wk (fun i σ H => ∃ h φ env, Go G O h1 φ1 H1 h φ H ∧ EnvR G (Lv O h φ) φ H env σ ∧ forLoop g b (xs.drop i) env h = .ok r h2) ⟨h1, φ1, env, Go.refl R, E, run⟩ ?_ ?_ ?_
  · rintro i σ H _ ⟨h, φ, env, w, _⟩
    obtain ⟨a, b, _⟩ := it _ _ _ w.ext w.rep.ok
    exact ⟨a, b⟩
  · rintro i x σ H H' hi ⟨h, φ, env, w, E, lp⟩ yl
    obtain ⟨_, _, iy⟩ := it _ _ _ w.ext w.rep.ok
    obtain ⟨sm, y, ex, ry⟩ := iy i x H' hi yl
    have g0 : Go G O h φ H h φ H' := Go.same w.rep sm
    have w' := w.trans g0
    have ed : xs.drop i = y :: xs.drop (i + 1) := by
      rw [List.drop_eq_getElem_cons hi]
      rw [List.getElem?_eq_getElem hi] at ex
      rw [Option.some.inj ex]
    rw [ed] at lp
    simp only [forLoop] at lp
    cases q : g y env with
    | none =>
      rw [q] at lp
      cases lp
    | some env1 =>
      rw [q] at lp
      obtain ⟨⟨fl, env2⟩, h3, e1, lp⟩ := bind_ok lp
      refine ⟨_, φ, env, y, env1, E.go w.rep g0, ry, q, fun σ2 E2 o2 => ⟨O, h, φ, env1, w'.rep, E2, post_ok e1 fun φ3 H3 v g3 rv => ?_⟩⟩
      obtain ⟨v, σ3⟩ := v
      have w3 := w'.trans g3
      cases fl with
      | nx =>
        cases v with
        | nx => exact ⟨h3, φ3, env2, w3, rv, lp⟩
        | _ => exact rv.elim
      | ct =>
        cases v with
        | ct => exact ⟨h3, φ3, env2, w3, rv, lp⟩
        | _ => exact rv.elim
      | bk =>
        cases v with
        | bk =>
          have lp' : Res.ok (Fl.nx, env2) h3 = Res.ok r h2 := lp
          cases lp'
          exact fin φ3 H3 (.nx, σ3) w3 rv
        | _ => exact rv.elim
      | rt a =>
        cases v with
        | rt v =>
          have lp' : Res.ok (Fl.rt a, env2) h3 = Res.ok r h2 := lp
          cases lp'
          exact fin φ3 H3 (.rt v, σ3) w3 rv
        | _ => exact rv.elim
  · rintro σ H ⟨h, φ, env, w, E, lp⟩
    rw [List.drop_length] at lp
    simp only [forLoop] at lp
    cases lp
    exact fin φ H (.nx, σ) w E
section
variable {X : Cx} {G : Gx} {pos : Pos} {c : Expr} {tc : Mb} {bs : Ms}
theorem s_for {tg iter : Expr} {body : List Stmt} {src : Mi} {g : Mg} {ws : List Nat} (hp : PassesOwn (model X.prog X.w) X.A X.env X.xe) (hc : X.calm = true) (hi : PI X tg iter (rI G src)) (hg : PG X tg (rG G ws g)) (hb : PSs X body (rS G bs))
    (hs : ∀ x, foldedSetIterable iter X.env x = pure x := by intro _; rfl) : PS X (.For tg iter body [] pos) (rS G (mFor src g bs)) := by
  refine PSimp (ps_for hp hc hi hg hb hs) fun D σ H ⟨O, h, φ, env, R, E, P⟩ => ?_
  refine ⟨O, h, φ, env, R, E, (P.bind (rel := relI G)).mono fun J H1 ⟨xs, h1, φ1, _, g1, it, P1⟩ => ?_⟩
  cases q : forLoop g bs xs env h1 with
  | bad =>
    rw [q] at P1
    exact P1.elim
  | ok r h2 =>
    rw [q] at P1
    exact for_run g1.rep (E.go R g1) it q fun φ2 H2 y g2 r2 => P1 φ2 H2 y g2 r2
/-- while, at most n turns -/
def whLoop (t : Mb) (b : Ms) : Nat → Env → IH → Res (Fl × Env)
  | 0, _, _ => .bad
  | n + 1, env, h => (t env h).bind fun c h1 => if c = true then (b env h1).bind fun r h2 => match r with
      | (.nx, env2) => whLoop t b n env2 h2
      | (.ct, env2) => whLoop t b n env2 h2
      | (.bk, env2) => .ok (.nx, env2) h2
      | (.rt v, env2) => .ok (.rt v, env2) h2
    else .ok (.nx, env) h1
def mWh (n : Nat) (t : Mb) (b : Ms) : Ms := fun env h => whLoop t b n env h
theorem s_while {body : List Stmt} {n : Nat} (hp : PassesOwn (model X.prog X.w) X.A X.env X.xe) (hc : PT X c (rT G tc)) (hb : PSs X body (rS G bs)) : PS X (.While c body [] pos) (rS G (mWh n tc bs)) := by
  refine PSimp (ps_while hp hc hb) fun D σ H ⟨O, h, φ, env, R, E, P⟩ => ?_
  unfold mWh at P
  cases q : whLoop tc bs n env h with
  | bad =>
    rw [q] at P
    exact P.elim
  | ok r h2 =>
    rw [q] at P
    refine ⟨fun m σ' H' => ∃ h' φ' env', Go G O h φ H h' φ' H' ∧ EnvR G (Lv O h' φ') φ' H' env' σ' ∧ whLoop tc bs m env' h' = .ok r h2, ⟨n, h, φ, env, Go.refl R, E, q⟩, ?_⟩
    rintro m σ1 H1 ⟨h1, φ1, env1, g1, E1, q1⟩
    cases m with
    | zero => cases q1
    | succ m =>
      simp only [whLoop] at q1
      obtain ⟨b, h3, e1, q1⟩ := bind_ok q1
      refine ⟨O, h1, φ1, env1, g1.rep, E1, post_ok e1 fun φ3 H3 v g3 rv => ?_⟩
      have rv' : v = b := rv
      subst rv'
      have E3 := E1.go g1.rep g3
      have w3 := g1.trans g3
      cases v with
      | false =>
        simp only [Bool.false_eq_true, if_false] at q1
        rw [if_neg (by decide)]
        have q1' : Res.ok (Fl.nx, env1) h3 = Res.ok r h2 := q1
        cases q1'
        exact P φ3 H3 (.nx, σ1) w3 E3
      | true =>
        simp only [if_true] at q1
        rw [if_pos rfl]
        obtain ⟨⟨fl, env2⟩, h4, e2, lp⟩ := bind_ok q1
        refine ⟨fun σ' H' => ∃ h' φ' env', Go G O h φ H h' φ' H' ∧ EnvR G (Lv O h' φ') φ' H' env' σ' ∧ whLoop tc bs m env' h' = .ok r h2, fun σ' H' z => ⟨m, Nat.lt_succ_self _, z⟩, O, h3, φ3, env1, g3.rep, E3, post_ok e2 fun φ4 H4 v g4 rv => ?_⟩
        obtain ⟨v, σ4⟩ := v
        have w4 := w3.trans g4
        cases fl with
        | nx =>
          cases v with
          | nx => exact ⟨h4, φ4, env2, w4, rv, lp⟩
          | _ => exact rv.elim
        | ct =>
          cases v with
          | ct => exact ⟨h4, φ4, env2, w4, rv, lp⟩
          | _ => exact rv.elim
        | bk =>
          cases v with
          | bk =>
            have lp' : Res.ok (Fl.nx, env2) h4 = Res.ok r h2 := lp
            cases lp'
            exact P φ4 H4 (.nx, σ4) w4 rv
          | _ => exact rv.elim
        | rt a =>
          cases v with
          | rt v =>
            have lp' : Res.ok (Fl.rt a, env2) h4 = Res.ok r h2 := lp
            cases lp'
            exact P φ4 H4 (.rt v, σ4) w4 rv
          | _ => exact rv.elim
end
end Iv

/-! IvM: defs and their calls. -/
namespace Iv
open PySem PySem.Spec PyProof.Rows L2

/-! ### what stands for itself, whatever changes -/
mutual
def noRef : IV → Bool
  | .non => true
  | .bl _ => true
  | .int _ => true
  | .str _ => true
  | .tup xs => noRefs xs
  | .lst xs => noRefs xs
  | .dic ks vs => noRefs ks && noRefs vs
  | .ins _ _ vs => noRefs vs
  | .rdl xs => noRefs xs
  | .tpx xs => noRefs xs
  | .dcn ks vs => noRefs ks && noRefs vs
  | .rng _ _ => true
  | .ref _ => false
def noRefs : List IV → Bool
  | [] => true
  | x :: xs => noRef x && noRefs xs
end
section
variable {G : Gx} {lv lv' : Addr → Prop} {φ φ' : List Addr} {H : Hp}
mutual
theorem RV.weak (sub : ∀ a, lv' a → lv a) : ∀ {x : IV} {v : V}, noRef x = true → RV G lv φ H x v → RV G lv' φ' H x v
  | .non, v, n, h => by simpa only [RV] using h
  | .bl b, v, n, h => by simpa only [RV] using h
  | .int i, v, n, h => by simpa only [RV] using h
  | .str s, v, n, h => by simpa only [RV] using h
  | .tup xs, v, n, h => by
    simp only [RV, noRef] at h n ⊢
    obtain ⟨p, vs, e, q, r⟩ := h
    exact ⟨p, vs, e, q, RVs.weak sub n r⟩
  | .lst xs, v, n, h => by
    simp only [RV, noRef] at h n ⊢
    obtain ⟨p, vs, e, nl, q, r⟩ := h
    exact ⟨p, vs, e, fun l => nl (sub p l), q, RVs.weak sub n r⟩
  | .rdl xs, v, n, h => by
    simp only [RV, noRef] at h n ⊢
    obtain ⟨p, vs, e, q, r⟩ := h
    refine ⟨p, vs, e, ?_, RVs.weak sub n r⟩
    rcases q with ⟨q, nl⟩ | q
    · exact .inl ⟨q, fun l => nl (sub p l)⟩
    · exact .inr q
  | .tpx xs, v, n, h => by
    simp only [RV, noRef] at h n ⊢
    obtain ⟨p, vs, e, q, r⟩ := h
    exact ⟨p, vs, e, q, RVs.weak sub n r⟩
  | .rng a b, v, n, h => by simpa only [RV] using h
  | .dcn ks vs, v, n, h => by
    simp only [RV, noRef, Bool.and_eq_true] at h n ⊢
    obtain ⟨p, nks, ks', vs', e, nl, q, nk, r1, r2⟩ := h
    exact ⟨p, nks, ks', vs', e, fun l => nl (sub p l), q, nk, RVs.weak sub n.1 r1, RVs.weak sub n.2 r2⟩
  | .dic ks vs, v, n, h => by
    simp only [RV, noRef, Bool.and_eq_true] at h n ⊢
    obtain ⟨p, ks', vs', e, nl, q, r1, r2⟩ := h
    exact ⟨p, ks', vs', e, fun l => nl (sub p l), q, RVs.weak sub n.1 r1, RVs.weak sub n.2 r2⟩
  | .ins c ns vs, v, n, h => by
    simp only [RV, noRef] at h n ⊢
    obtain ⟨p, dx, fvs, e, nl, q, l, r⟩ := h
    exact ⟨p, dx, fvs, e, fun l => nl (sub p l), q, l, RVs.weak sub n r⟩
  | .ref k, v, n, h => by simp [noRef] at n
theorem RVs.weak (sub : ∀ a, lv' a → lv a) : ∀ {xs : List IV} {vs : List V}, noRefs xs = true → RVs G lv φ H xs vs → RVs G lv' φ' H xs vs
  | [], vs, n, h => by simpa only [RVs] using h
  | y :: ys, vs, n, h => by
    simp only [RVs, noRefs, Bool.and_eq_true] at h n ⊢
    obtain ⟨v, r, e, q, s⟩ := h
    exact ⟨v, r, e, RV.weak sub n.1 q, RVs.weak sub n.2 s⟩
end
theorem lv_nil {O : Addr → Prop} : Lv O [] φ = O := by
  funext a
  refine propext ⟨?_, .inl⟩
  rintro (l | ⟨i, o, e, _⟩)
  · exact l
  · simp at e
theorem rep_nil {O : Addr → Prop} (ok : ∀ a, O a → Mut (H a)) : Rep G O [] [] H :=
  ⟨rfl, fun i j a o o' e => by simp at e, ok, fun i a o e => by simp at e, fun i o a e => by simp at e⟩
end
/-! ### promises -/
abbrev Mf := List IV → IH → Res IV
/-- a def over the machine's heap -/
def spM (G : Gx) (n : Nat) (m : Mf) : Sp := fun vs H Q _ => ∃ O h φ xs, Rep G O h φ H ∧ RVs G (Lv O h φ) φ H xs vs ∧ xs.length = n ∧ Post (relV G) G O h φ H (m xs h) Q
/-- a def of what changes no more, to such -/
def spP (G : Gx) (n : Nat) (m : List IV → Option IV) : Sp := fun vs H Q _ => ∃ lv xs y, (∀ a, lv a → Mut (H a)) ∧ RVs G lv [] H xs vs ∧ xs.length = n ∧ m xs = some y ∧
  ∀ H' v, (∀ a, lv a → H' a = H a) → (∀ a o, H a = some o → ¬ lv a → H' a = some o) → RV G lv [] H' y v → Q v H'
def bodyM (nN : Nat) (b : Ms) : Mf := fun xs h => (b (xs.map some ++ List.replicate (nN - xs.length) none) h).bind fun r h1 => match r with
  | (.rt v, _) => .ok v h1
  | (.nx, _) => .ok .non h1
  | _ => .bad
def pureM (m : Mf) : List IV → Option IV := fun xs => match m xs [] with
  | .ok y _ => if noRef y = true then some y else none
  | .bad => none
section
variable {P : Program} {w : World} {K : PySem.W.Frag} {mg : Str → Option Value} {base : Heap} {x qual : Str} {params : Arguments} {body : List Stmt} {scope : Scope} {dvs : List V} {kws : List (Str × V)} {f : Addr} {fd : FuncData} {G : Gx}
theorem envR_start {lv : Addr → Prop} {φ : List Addr} {H : Hp} : ∀ {xs : List IV} {vs : List V} (N : List Str), RVs G lv φ H xs vs → EnvR G lv φ H (xs.map some ++ List.replicate (N.length - xs.length) none) (L2.start N vs) := by
  intro xs vs N r
  have l := r.length
  unfold L2.start
  refine ⟨by simp [l], fun i y e => ?_⟩
  by_cases hi : i < xs.length
  · rw [List.getElem?_append_left (by simpa using hi), List.getElem?_map] at e
    obtain ⟨z, e1, e2⟩ := Option.map_eq_some_iff.mp e
    cases e2
    obtain ⟨v, e3, e4⟩ := r.get e1
    exact ⟨v, by rw [List.getElem?_append_left (by simp; omega), List.getElem?_map, e3]; rfl, e4⟩
  · rw [List.getElem?_append_right (by simpa using Nat.le_of_not_lt hi), List.getElem?_replicate] at e
    split at e
    · cases e
    · cases e
theorem fn_okM {N ps : List Str} {k : Nat} {b : Ms} (F : FunD K x qual params body scope dvs kws f fd) (S : FnScope N ps scope)
    (hb : ∀ (cdv : Value) (A : Around) (outer : List PySem.Env) (s : Shared) (H : Hp) (E : XK), Room k (A.deeper (envOfC qual scope s.heap.objs.size f cdv)) → PSs (cxOf CX0 P w K mg base N qual scope f cdv A outer s H E) body (rS G b)) :
    FnOk P w K mg base CX0 (k + 1) f fd ps (spM G ps.length (bodyM N.length b)) := by
  refine F.ok S (fun vs H Q E h => ?_) fun cdv A outer s H vs Q E hr h => ⟨rS G b, hb cdv A outer s H E hr, ?_⟩
  · obtain ⟨O, h, φ, xs, R, r, l, _⟩ := h
    rw [r.length, l]
  · obtain ⟨O, h, φ, xs, R, r, l, Pp⟩ := h
    refine ⟨O, h, φ, _, R, envR_start N r, (Pp.bind (rel := relF G)).mono fun v H1 ⟨y, h1, φ1, _, g1, r1, P1⟩ => ?_⟩
    obtain ⟨y, env1⟩ := y
    obtain ⟨v, σ1⟩ := v
    cases y with
    | nx =>
      cases v with
      | nx => exact P1 φ1 H1 .non (Go.refl g1.rep) (by simp only [relV, RV])
      | _ => exact r1.elim
    | bk =>
      cases v with
      | bk => exact P1.elim
      | _ => exact r1.elim
    | ct =>
      cases v with
      | ct => exact P1.elim
      | _ => exact r1.elim
    | rt a =>
      cases v with
      | rt v => exact P1 φ1 H1 v (Go.refl g1.rep) r1
      | _ => exact r1.elim
theorem fn_okP {ps : List Str} {k n : Nat} {m : Mf} (F : FnOk P w K mg base CX0 k f fd ps (spM G n m)) : FnOk P w K mg base CX0 k f fd ps (spP G n (pureM m)) := by
  refine F.imp fun vs H Q E ⟨lv, xs, y, ok, r, l, e, q⟩ => ?_
  refine ⟨lv, [], [], xs, rep_nil ok, by rw [lv_nil]; exact r, l, ?_⟩
  unfold pureM at e
  split at e
  · rename_i y' h' e1
    split at e
    · rename_i nr
      cases e
      refine post_ok e1 fun φ' H' v g rv => q H' v g.outk (fun a o ea nl => g.ext.keep a o ea (by rw [lv_nil]; exact nl)) ?_
      exact RV.weak (fun a l => .inl l) nr rv
    · cases e
  · cases e
end
/-! ### calls -/
section
variable {X : Cx} {G : Gx} {k j n : Nat} {f C : Addr} {fd : FuncData} {ps : List Str} {x m : Str} {p pos apos : Pos} {e o : Expr} {es : List Expr} {fa : Ma} {fo : Mv} {mf : Mf} {mp : List IV → Option IV} {ds : List IV} {dvs : List V} {dus : List Value}
def mCall (n : Nat) (m : Mf) (ds : List IV) (fa : Ma) : Mv := fun env h => (fa env h).bind fun xs h1 => if (xs ++ ds).length = n then m (xs ++ ds) h1 else .bad
theorem call_rd {E : XK} (hd : ∀ lv φ H, RVs G lv φ H ds dvs) {σ : L2.St} {H : Hp} {Q : VK} (q : rE G (mCall n mf ds fa) σ H Q) : tCall (spM G n mf) dvs E (rA G fa) σ H Q := by
  obtain ⟨O, h, φ, env, R, En, P⟩ := q
  refine ⟨O, h, φ, env, R, En, (P.bind (rel := relA G)).mono fun v H1 ⟨xs, h1, φ1, _, g1, r1, P1⟩ => ?_⟩
  have P2 : Post (relV G) G O h1 φ1 H1 (if (xs ++ ds).length = n then mf (xs ++ ds) h1 else .bad) Q := P1
  by_cases l : (xs ++ ds).length = n
  · rw [if_pos l] at P2
    exact ⟨O, h1, φ1, xs ++ ds, g1.rep, RVs.append r1 (hd _ _ _), l, P2⟩
  · rw [if_neg l] at P2
    exact P2.elim
theorem s_call {E : XK} (F : FnOk X.prog X.w X.K X.mg X.base CX0 k f fd ps (spM G n mf)) (hr : Room k X.A) (hg : Gl X x) (hm : X.mg x = some (.ref f)) (hk : PySem.W.keepIn X.K (.ref f) = true) (hb : Binds X.K fd ps dus) (hdv : Vals dvs dus) (hd : ∀ lv φ H, RVs G lv φ H ds dvs)
    (ha : PA X (e :: es) (rA G fa)) (hx : Passes CX0 X E) (hdb : (x == ("__debug__" : Str)) = false := by decide) (he : starEach (e :: es) X.env = (false, eval e X.env) :: starEach es X.env := by rfl) (hpl : (backTo pos (starEach es X.env)).any (·.1) = false := by rfl) :
    PE X (.Call (.Name x p) (e :: es) [] pos) (rE G (mCall n mf ds fa)) :=
  PEimp (pe_call (E := E) F hr hg hm hk hb hdv hx ha hdb he hpl) fun σ H Q q => call_rd hd q
def mCallP (n : Nat) (m : List IV → Option IV) (ds : List IV) (fa : Ma) : Mv := fun env h => (fa env h).bind fun xs h1 => if (xs ++ ds).length = n ∧ noRefs (xs ++ ds) = true then .ofO (m (xs ++ ds)) h1 else .bad
theorem pure_post {O : Addr → Prop} {h1 : IH} {φ1 : List Addr} {H1 : Hp} {xs : List IV} {vs : List V} {E : XK} {Q : VK} (R : Rep G O h1 φ1 H1) (r : RVs G (Lv O h1 φ1) φ1 H1 xs vs) (l : xs.length = n) (nr : noRefs xs = true) (P : Post (relV G) G O h1 φ1 H1 (.ofO (mp xs) h1) Q) : spP G n mp vs H1 Q E := by
  cases q : mp xs with
  | none =>
    rw [q] at P
    exact P.elim
  | some y =>
    rw [q] at P
    refine ⟨Lv O h1 φ1, xs, y, R.ok, RVs.weak (fun a l => l) nr r, l, q, fun H' v keepL keepN ry => ?_⟩
    have x : Ext (Lv O h1 φ1) φ1 H1 (Lv O h1 φ1) φ1 H' := ⟨fun a o e nl => keepN a o e nl, fun _ _ _ nl => nl, [], by simp⟩
    have g : Go G O h1 φ1 H1 h1 φ1 H' := ⟨⟨R.len, R.nd, fun a o => by rw [keepL a (.inl o)]; exact R.out a o, R.dis, fun i o a e1 e2 => (R.obj i o a e1 e2).mono x R.ok (keepL a (.inr ⟨i, o, e1, e2⟩))⟩, x, fun a o => keepL a (.inl o)⟩
    refine P φ1 H' v g ?_
    obtain ⟨ψ, hψ⟩ : ∃ ψ, φ1 = [] ++ ψ := ⟨φ1, rfl⟩
    exact RV.mono (lv := Lv O h1 φ1) (φ := []) (H := H') ⟨fun _ _ e _ => e, fun _ _ _ nl => nl, ψ, hψ⟩ g.rep.ok y ry
theorem callP_rd {E : XK} (hd : ∀ lv φ H, RVs G lv φ H ds dvs) {σ : L2.St} {H : Hp} {Q : VK} (q : rE G (mCallP n mp ds fa) σ H Q) : tCall (spP G n mp) dvs E (rA G fa) σ H Q := by
  obtain ⟨O, h, φ, env, R, En, P⟩ := q
  refine ⟨O, h, φ, env, R, En, (P.bind (rel := relA G)).mono fun v H1 ⟨xs, h1, φ1, _, g1, r1, P1⟩ => ?_⟩
  have P2 : Post (relV G) G O h1 φ1 H1 (if (xs ++ ds).length = n ∧ noRefs (xs ++ ds) = true then .ofO (mp (xs ++ ds)) h1 else .bad) Q := P1
  by_cases l : (xs ++ ds).length = n ∧ noRefs (xs ++ ds) = true
  · rw [if_pos l] at P2
    exact pure_post g1.rep (RVs.append r1 (hd _ _ _)) l.1 l.2 P2
  · rw [if_neg l] at P2
    exact P2.elim
theorem s_callP {E : XK} (F : FnOk X.prog X.w X.K X.mg X.base CX0 k f fd ps (spP G n mp)) (hr : Room k X.A) (hg : Gl X x) (hm : X.mg x = some (.ref f)) (hk : PySem.W.keepIn X.K (.ref f) = true) (hb : Binds X.K fd ps dus) (hdv : Vals dvs dus) (hd : ∀ lv φ H, RVs G lv φ H ds dvs)
    (ha : PA X (e :: es) (rA G fa)) (hx : Passes CX0 X E) (hdb : (x == ("__debug__" : Str)) = false := by decide) (he : starEach (e :: es) X.env = (false, eval e X.env) :: starEach es X.env := by rfl) (hpl : (backTo pos (starEach es X.env)).any (·.1) = false := by rfl) :
    PE X (.Call (.Name x p) (e :: es) [] pos) (rE G (mCallP n mp ds fa)) :=
  PEimp (pe_call (E := E) F hr hg hm hk hb hdv hx ha hdb he hpl) fun σ H Q q => callP_rd hd q
/-- o.m(..), o of the class c -/
def mMeth (c n : Nat) (m : List IV → Option IV) (ds : List IV) (fo : Mv) (fa : Ma) : Mv := fun env h => (fo env h).bind fun x h1 => match x with
  | .ins c' _ _ => if c' = c then (fa env h1).bind fun xs h2 => if (x :: (xs ++ ds)).length = n ∧ noRefs (x :: (xs ++ ds)) = true then .ofO (m (x :: (xs ++ ds))) h2 else .bad else .bad
  | _ => .bad
theorem nolook {G : Gx} {m : Str} (hmn : ∀ n, n < G.nf → G.fnm n ≠ m) : ∀ {ns : List Nat} {fvs : List V}, (∀ k ∈ ns, k < G.nf) → ((ns.map G.fnm).zip fvs).lookup m = none
  | [], _, _ => rfl
  | _ :: _, [], _ => rfl
  | k :: ns, v :: fvs, h => by
    rw [List.map_cons, List.zip_cons_cons, List.lookup_cons]
    have ne : (m == G.fnm k) = false := beq_eq_false_iff_ne.mpr fun z => hmn k (h k List.mem_cons_self) z.symm
    rw [ne]
    exact nolook hmn fun k hk => h k (List.mem_cons_of_mem _ hk)
theorem meth_rd {c : Nat} {E : XK} (hmn : ∀ n, n < G.nf → G.fnm n ≠ m) (hd : ∀ lv φ H, RVs G lv φ H ds dvs) {σ : L2.St} {H : Hp} {Q : VK} (q : rE G (mMeth c n mp ds fo fa) σ H Q) : tMeth (G.cad c) m (spP G n mp) dvs E (rE G fo) (rA G fa) σ H Q := by
  obtain ⟨O, h, φ, env, R, En, P⟩ := q
  refine ⟨O, h, φ, env, R, En, (P.bind (rel := relV G)).mono fun v H1 ⟨x, h1, φ1, _, g1, r1, P1⟩ => ?_⟩
  cases x with
  | ins c' ns fs =>
    have P2 : Post (relV G) G O h1 φ1 H1 (if c' = c then (fa env h1).bind fun xs h2 => if (IV.ins c' ns fs :: (xs ++ ds)).length = n ∧ noRefs (IV.ins c' ns fs :: (xs ++ ds)) = true then .ofO (mp (IV.ins c' ns fs :: (xs ++ ds))) h2 else .bad else .bad) Q := P1
    by_cases hc : c' = c
    · subst hc
      rw [if_pos rfl] at P2
      have r1' := r1
      simp only [relV, RV] at r1'
      obtain ⟨a, dx, fvs, rfl, nl, ea, ok, rs⟩ := r1'
      refine ⟨a, dx, _, rfl, ea, nolook hmn ok.2.2.2, O, h1, φ1, env, g1.rep, En.go R g1, (P2.bind (rel := relA G)).mono fun v2 H2 ⟨xs, h2, φ2, _, g2, r2, P3⟩ => ?_⟩
      have P4 : Post (relV G) G O h2 φ2 H2 (if (IV.ins c' ns fs :: (xs ++ ds)).length = n ∧ noRefs (IV.ins c' ns fs :: (xs ++ ds)) = true then .ofO (mp (IV.ins c' ns fs :: (xs ++ ds))) h2 else .bad) Q := P3
      by_cases l : (IV.ins c' ns fs :: (xs ++ ds)).length = n ∧ noRefs (IV.ins c' ns fs :: (xs ++ ds)) = true
      · rw [if_pos l] at P4
        refine pure_post g2.rep ?_ l.1 l.2 P4
        simp only [RVs]
        exact ⟨.ref a, _, rfl, relV.go g1.rep g2 r1, RVs.append r2 (hd _ _ _)⟩
      · rw [if_neg l] at P4
        exact P4.elim
    · rw [if_neg hc] at P2
      exact P2.elim
  | _ => exact P1.elim
theorem s_meth {c : Nat} {E : XK} {pl : Sem Bool} (hmn : ∀ n, n < G.nf → G.fnm n ≠ m) (ho : PE X o (rE G fo)) (hc : Cls X.K (G.cad c)) (hm : Meth X.K (G.cad c) m f) (F : FnOk X.prog X.w X.K X.mg X.base CX0 k f fd ps (spP G n mp)) (hr : Room k X.A) (hb : Binds X.K fd ps dus) (hdv : Vals dvs dus) (hd : ∀ lv φ H, RVs G lv φ H ds dvs)
    (ha : PA X (e :: es) (rA G fa)) (hx : Passes CX0 X E) (hst : starEach (e :: es) X.env = (false, eval e X.env) :: starEach es X.env := by rfl) (hpl : (backTo pos (starEach es X.env)).any (·.1) = false := by rfl)
    (ht : eval (.Call (.Attribute o m apos) (e :: es) [] pos) X.env = (do
      let ov ← eval o X.env
      standAt apos.atName
      let (f, first) ← holding [ov] (getMethod ov m pl)
      callWith pos f first (backTo pos (starEach (e :: es) X.env)) (backToKw pos (keywordEach [] X.env))) := by rfl) :
    PE X (.Call (.Attribute o m apos) (e :: es) [] pos) (rE G (mMeth c n mp ds fo fa)) :=
  PEimp (pe_meth (E := E) (pl := pl) ho hc hm F hr hb hdv hx ha hst hpl ht) fun σ H Q q => meth_rd hmn hd q
theorem s_meth0 {c : Nat} {E : XK} {pl : Sem Bool} (hmn : ∀ n, n < G.nf → G.fnm n ≠ m) (ho : PE X o (rE G fo)) (hc : Cls X.K (G.cad c)) (hm : Meth X.K (G.cad c) m f) (F : FnOk X.prog X.w X.K X.mg X.base CX0 k f fd ps (spP G n mp)) (hr : Room k X.A) (hb : Binds X.K fd ps dus) (hdv : Vals dvs dus) (hd : ∀ lv φ H, RVs G lv φ H ds dvs) (hx : Passes CX0 X E)
    (ht : eval (.Call (.Attribute o m apos) [] [] pos) X.env = (do
      let ov ← eval o X.env
      standAt apos.atName
      let (f, first) ← holding [ov] (getMethod ov m pl)
      callWith pos f first (backTo pos (starEach [] X.env)) (backToKw pos (keywordEach [] X.env))) := by rfl) :
    PE X (.Call (.Attribute o m apos) [] [] pos) (rE G (mMeth c n mp ds fo mNil)) :=
  PEimp (pe_meth0 (E := E) (pl := pl) ho hc hm F hr hb hdv hx ht) fun σ H Q q => by
    obtain ⟨O, h, φ, env, R, En, P⟩ := meth_rd (E := E) (m := m) (dvs := dvs) hmn hd q
    refine ⟨O, h, φ, env, R, En, P.mono fun v H1 ⟨a, dx, fs, ev, ea, l, z⟩ => ⟨a, dx, fs, ev, ea, l, ?_⟩⟩
    obtain ⟨O, h, φ, env, R, En, P⟩ := z
    exact P φ H1 [] (Go.refl R) (by simp only [relA, RVs])
/-- C(..), then it changes no more -/
def pureMk (c : Nat) (m : Mf) : List IV → Option IV := fun xs => match m (.ref 0 :: xs) [some (.ins c [] [])] with
  | .ok .non h => match h[0]? with
    | some (some o) => if noRef (viewO o) = true then some (viewO o) else none
    | _ => none
  | _ => none
def mMake (n : Nat) (m : List IV → Option IV) (ds : List IV) (fa : Ma) : Mv := fun env h => (fa env h).bind fun xs h1 => if (xs ++ ds).length + 1 = n ∧ noRefs (xs ++ ds) = true then .ofO (m (xs ++ ds)) h1 else .bad
theorem make_rd {c : Nat} {E : XK} (hc : c < G.nc) (hd : ∀ lv φ H, RVs G lv φ H ds dvs) {σ : L2.St} {H : Hp} {Q : VK} (q : rE G (mMake n (pureMk c mf) ds fa) σ H Q) : tMake (G.cad c) (spM G n mf) dvs E (rA G fa) σ H Q := by
  obtain ⟨O, h, φ, env, R, En, P⟩ := q
  refine ⟨O, h, φ, env, R, En, (P.bind (rel := relA G)).mono fun v H1 ⟨xs, h1, φ1, _, g1, r1, P1⟩ => ?_⟩
  intro x dx nx ndx hne
  have P2 : Post (relV G) G O h1 φ1 H1 (if (xs ++ ds).length + 1 = n ∧ noRefs (xs ++ ds) = true then .ofO (pureMk c mf (xs ++ ds)) h1 else .bad) Q := P1
  by_cases l : (xs ++ ds).length + 1 = n ∧ noRefs (xs ++ ds) = true
  · rw [if_pos l] at P2
    cases q : pureMk c mf (xs ++ ds) with
    | none =>
      rw [q] at P2
      exact P2.elim
    | some y =>
      rw [q] at P2
      have rr : RVs G (Lv O h1 φ1) [] H1 (xs ++ ds) (v ++ dvs) := RVs.weak (fun a l => l) l.2 (RVs.append r1 (hd _ _ _))
      -- the dict, then the instance
      have s1 : Same H1 (upd H1 dx (.own x)) := same_upd ndx
      have ok1 := g1.rep.ok
      have R0 : Rep G (Lv O h1 φ1) [] [] H1 := rep_nil ok1
      have ga := Go.same R0 s1
      have nx2 : (upd H1 dx (.own x)) x = none := by rw [upd_ne (Ne.symm hne)]; exact nx
      have gb := ga.rep.alloc (p := x) (o := .ins c [] []) (ho := .ins (G.cad c) dx []) nx2 trivial fun lv φ' xx => ⟨dx, [], upd_same, ⟨hc, rfl, by decide, fun m h => by cases h⟩, by simp only [RVs]⟩
      have gab := ga.trans gb
      unfold pureMk at q
      split at q
      · rename_i h2 e1
        split at q
        · rename_i o e2
          split at q
          · rename_i nr
            cases q
            refine ⟨Lv O h1 φ1, [some (.ins c [] [])], [x], .ref 0 :: (xs ++ ds), gb.rep, ?_, by simpa using l.1, post_ok e1 fun φ2 H2 u g2 ru => ?_⟩
            · simp only [RVs, RV]
              refine ⟨.ref x, _, rfl, ⟨x, rfl, rfl⟩, RVs.mono gab.ext R0.ok _ (by rw [lv_nil]; exact rr)⟩
            · simp only [relV, RV] at ru
              refine ⟨ru, ?_⟩
              obtain ⟨ψ, hψ⟩ := g2.ext.pre
              have e3 : φ2[0]? = some x := by rw [hψ]; rfl
              have rv := frz_rv g2.rep e2 e3
              have gk : Go G (Lv O h1 φ1) h2 φ2 H2 (h2.set 0 none) φ2 H2 := g2.rep.kill
              have gall := (gab.trans g2).trans gk
              have x1 : Ext (Lv O h1 φ1) φ1 H1 (Lv O h1 φ1) φ1 H2 := ⟨fun a o e nl => gall.ext.keep a o e (by rw [lv_nil]; exact nl), fun _ _ _ nl => nl, [], by simp⟩
              have g : Go G O h1 φ1 H1 h1 φ1 H2 := ⟨⟨g1.rep.len, g1.rep.nd, fun a o => by rw [gall.outk a (.inl o)]; exact g1.rep.out a o, g1.rep.dis, fun i o a e1 e2 => (g1.rep.obj i o a e1 e2).mono x1 g1.rep.ok (gall.outk a (.inr ⟨i, o, e1, e2⟩))⟩, x1, fun a o => gall.outk a (.inl o)⟩
              exact P2 φ1 H2 (.ref x) g (RV.weak (fun a l => .inl l) nr rv)
          · cases q
        · cases q
      · cases q
  · rw [if_neg l] at P2
    exact P2.elim
theorem s_make {c : Nat} {E : XK} (hcn : c < G.nc) (M : Mk X.K (G.cad c) f) (F : FnOk X.prog X.w X.K X.mg X.base CX0 k f fd ps (spM G n mf)) (hr : Room (k + 1) X.A) (hg : Gl X x) (hm : X.mg x = some (.ref (G.cad c))) (hb : Binds X.K fd ps dus) (hdv : Vals dvs dus) (hd : ∀ lv φ H, RVs G lv φ H ds dvs)
    (ha : PA X (e :: es) (rA G fa)) (hx : Passes CX0 X E) (hdb : (x == ("__debug__" : Str)) = false := by decide) (he : starEach (e :: es) X.env = (false, eval e X.env) :: starEach es X.env := by rfl) (hpl : (backTo pos (starEach es X.env)).any (·.1) = false := by rfl) :
    PE X (.Call (.Name x p) (e :: es) [] pos) (rE G (mMake n (pureMk c mf) ds fa)) :=
  PEimp (pe_make (E := E) M F hr hg hm hb hdv hx ha hdb he hpl) fun σ H Q q => make_rd hcn hd q
end
end Iv

/-! IvN: built-in functions. -/
namespace Iv
open PySem PySem.Spec PyProof.Rows L2

abbrev Bf := List IV → IH → Res IV
/-- the machine's answer is right -/
def BF (G : Gx) (r : List V → Hp → VK → Prop) (bf : Bf) : Prop := ∀ (O : Addr → Prop) (h : IH) (φ : List Addr) (H : Hp) (xs : List IV) (vs : List V) (Q : VK), Rep G O h φ H → RVs G (Lv O h φ) φ H xs vs → Post (relV G) G O h φ H (bf xs h) Q → r vs H Q
def mBf (bf : Bf) (fa : Ma) : Mv := fun env h => (fa env h).bind bf
section
variable {X : Cx} {G : Gx} {x : Str} {p pos : Pos} {e : Expr} {es : List Expr} {fa : Ma} {id T : String} {r : List V → Hp → VK → Prop} {bf : Bf}
theorem bf_rd (b : BF G r bf) {σ : L2.St} {H : Hp} {Q : VK} (q : rE G (mBf bf fa) σ H Q) : tCB r (rA G fa) σ H Q := by
  obtain ⟨O, h, φ, env, R, E, P⟩ := q
  exact ⟨O, h, φ, env, R, E, (P.bind (rel := relA G)).mono fun v H1 ⟨xs, h1, φ1, _, g1, r1, P1⟩ => b O h1 φ1 H1 xs v Q g1.rep r1 P1⟩
theorem s_callB (b : BF G r bf) (hc : CallR X (.builtin id) r) (hg : Gl X x) (hm : X.mg x = none) (hv : bootBuiltins x = some (.builtin id)) (ha : PA X (e :: es) (rA G fa)) (hn : x ≠ "__name__" := by decide) (hdb : (x == ("__debug__" : Str)) = false := by decide)
    (he : starEach (e :: es) X.env = (false, eval e X.env) :: starEach es X.env := by rfl) (hpl : (backTo pos (starEach es X.env)).any (·.1) = false := by rfl) : PE X (.Call (.Name x p) (e :: es) [] pos) (rE G (mBf bf fa)) :=
  PEimp (pe_callB hc hg hm hv ha hn hdb he hpl) fun σ H Q q => bf_rd b q
theorem s_callTy (b : BF G r bf) (hc : CallR X (.type T) r) (hg : Gl X x) (hm : X.mg x = none) (hv : bootBuiltins x = some (.type T)) (ha : PA X (e :: es) (rA G fa)) (hn : x ≠ "__name__" := by decide) (hdb : (x == ("__debug__" : Str)) = false := by decide)
    (he : starEach (e :: es) X.env = (false, eval e X.env) :: starEach es X.env := by rfl) (hpl : (backTo pos (starEach es X.env)).any (·.1) = false := by rfl) : PE X (.Call (.Name x p) (e :: es) [] pos) (rE G (mBf bf fa)) :=
  PEimp (pe_callTy hc hg hm hv ha hn hdb he hpl) fun σ H Q q => bf_rd b q
end
/-! ### what is read of arguments -/
section
variable {G : Gx} {O : Addr → Prop} {h : IH} {φ : List Addr} {H : Hp} {lv : Addr → Prop}
theorem rvs1 {x : IV} {vs : List V} (r : RVs G lv φ H [x] vs) : ∃ v, vs = [v] ∧ RV G lv φ H x v := by
  simp only [RVs] at r
  obtain ⟨v, _, rfl, r, rfl⟩ := r
  exact ⟨v, rfl, r⟩
theorem rvs2 {x y : IV} {vs : List V} (r : RVs G lv φ H [x, y] vs) : ∃ v w, vs = [v, w] ∧ RV G lv φ H x v ∧ RV G lv φ H y w := by
  simp only [RVs] at r
  obtain ⟨v, _, rfl, r, w, _, rfl, r2, rfl⟩ := r
  exact ⟨v, w, rfl, r, r2⟩
/-- a list or a tuple, live or not -/
theorem skw_of (R : Rep G O h φ H) {x : IV} {v : V} {xs : List IV} (r : RV G (Lv O h φ) φ H x v) (e : skI (view h x) = some xs) : ∃ k vs, v = .ref (Sk.adr k) ∧ RVs G (Lv O h φ) φ H xs vs ∧ SqA G.K H k vs := by
  have w := RW.view R r
  cases q : view h x with
  | lst ys =>
    rw [q] at w e
    cases e
    obtain ⟨p, vs, rfl, hq, r⟩ := w
    exact ⟨.l p, vs, rfl, r, SqL.of hq⟩
  | tup ys =>
    rw [q] at w e
    cases e
    simp only [RW, RV] at w
    obtain ⟨p, vs, rfl, hq, r⟩ := w
    exact ⟨.t p, vs, rfl, r, hq⟩
  | tpx ys =>
    rw [q] at w e
    cases e
    simp only [RW, RV] at w
    obtain ⟨p, vs, rfl, hq, r⟩ := w
    exact ⟨.t p, vs, rfl, r, hq.sq⟩
  | rdl ys =>
    rw [q] at w e
    cases e
    simp only [RW, RV] at w
    obtain ⟨p, vs, rfl, hq, r⟩ := w
    exact ⟨.l p, vs, rfl, r, hq.sq⟩
  | _ =>
    rw [q] at e
    cases e
end
def lstI : IV → Option (List IV)
  | .lst xs => some xs
  | .rdl xs => some xs
  | _ => none
section
variable {G : Gx} {O : Addr → Prop} {h : IH} {φ : List Addr} {H : Hp}
theorem lstw_of (R : Rep G O h φ H) {x : IV} {v : V} {xs : List IV} (r : RV G (Lv O h φ) φ H x v) (e : lstI (view h x) = some xs) : ∃ p vs, v = .ref p ∧ RVs G (Lv O h φ) φ H xs vs ∧ SqL G.K H p vs := by
  have w := RW.view R r
  cases q : view h x with
  | lst ys =>
    rw [q] at w e
    cases e
    obtain ⟨p, vs, rfl, hq, r⟩ := w
    exact ⟨p, vs, rfl, r, SqL.of hq⟩
  | rdl ys =>
    rw [q] at w e
    cases e
    simp only [RW, RV] at w
    obtain ⟨p, vs, rfl, hq, r⟩ := w
    exact ⟨p, vs, rfl, r, hq.sq⟩
  | _ =>
    rw [q] at e
    cases e
end
/-! ### the built-ins -/
def bAbs : Bf := fun xs h => match xs with
  | [.int i] => .ok (.int (if i < 0 then -i else i)) h
  | _ => .bad
theorem b_abs {G : Gx} : BF G (fun xs H Q => ∃ i, xs = [.int i] ∧ Q (.int (if i < 0 then -i else i)) H) bAbs := by
  intro O h φ H xs vs Q R r P
  unfold bAbs at P
  split at P
  · rename_i i
    obtain ⟨v, rfl, ra⟩ := rvs1 r; replace r := ra
    simp only [RV] at r
    exact ⟨i, by rw [r], P φ H _ (Go.refl R) (by simp only [relV, RV])⟩
  · exact P.elim
def bInt : Bf := fun xs h => match xs with
  | [.int i] => .ok (.int i) h
  | [.bl b] => .ok (.int (if b then 1 else 0)) h
  | _ => .bad
theorem b_int {G : Gx} : BF G (fun xs H Q => (∃ i, xs = [.int i] ∧ Q (.int i) H) ∨ ∃ k, xs = [.bl k] ∧ Q (.int (if k then 1 else 0)) H) bInt := by
  intro O h φ H xs vs Q R r P
  unfold bInt at P
  split at P
  · rename_i i
    obtain ⟨v, rfl, ra⟩ := rvs1 r; replace r := ra
    simp only [RV] at r
    exact .inl ⟨i, by rw [r], P φ H _ (Go.refl R) (by simp only [relV, RV])⟩
  · rename_i b
    obtain ⟨v, rfl, ra⟩ := rvs1 r; replace r := ra
    simp only [RV] at r
    exact .inr ⟨b, by rw [r], P φ H _ (Go.refl R) (by simp only [relV, RV])⟩
  · exact P.elim
def bBool : Bf := fun xs h => match xs with
  | [.int i] => .ok (.bl (i != 0)) h
  | [.bl b] => .ok (.bl b) h
  | _ => .bad
theorem b_bool {G : Gx} : BF G (fun xs H Q => (∃ i, xs = [.int i] ∧ Q (.bl (i != 0)) H) ∨ ∃ k, xs = [.bl k] ∧ Q (.bl k) H) bBool := by
  intro O h φ H xs vs Q R r P
  unfold bBool at P
  split at P
  · rename_i i
    obtain ⟨v, rfl, ra⟩ := rvs1 r; replace r := ra
    simp only [RV] at r
    exact .inl ⟨i, by rw [r], P φ H _ (Go.refl R) (by simp only [relV, RV])⟩
  · rename_i b
    obtain ⟨v, rfl, ra⟩ := rvs1 r; replace r := ra
    simp only [RV] at r
    exact .inr ⟨b, by rw [r], P φ H _ (Go.refl R) (by simp only [relV, RV])⟩
  · exact P.elim
def bStr : Bf := fun xs h => match xs with
  | [.int i] => if i.natAbs.log2 < 1920 then .ok (.str (toString i)) h else .bad
  | [.str a] => .ok (.str a) h
  | _ => .bad
def rStrA : List V → Hp → VK → Prop := fun xs H Q => (∃ i, xs = [.int i] ∧ i.natAbs.log2 < 1920 ∧ Q (.str (toString i)) H) ∨ ∃ a, xs = [.str a] ∧ Q (.str a) H
theorem call_strA {X : Cx} : CallR X (.type "str") rStrA := call_str_int.or SkE.call_str_str
theorem b_str {G : Gx} : BF G rStrA bStr := by
  intro O h φ H xs vs Q R r P
  unfold bStr at P
  split at P
  · rename_i i
    obtain ⟨v, rfl, ra⟩ := rvs1 r; replace r := ra
    simp only [RV] at r
    by_cases hi : i.natAbs.log2 < 1920
    · rw [if_pos hi] at P
      exact .inl ⟨i, by rw [r], hi, P φ H _ (Go.refl R) (by simp only [relV, RV])⟩
    · rw [if_neg hi] at P
      exact P.elim
  · rename_i a
    obtain ⟨v, rfl, ra⟩ := rvs1 r; replace r := ra
    simp only [RV] at r
    exact .inr ⟨a, by rw [r], P φ H _ (Go.refl R) (by simp only [relV, RV])⟩
  · exact P.elim
/-- len -/
def lenI : IV → Option Nat
  | .lst xs => some xs.length
  | .rdl xs => some xs.length
  | .tup xs => some xs.length
  | .str y => if y.length ≤ sizeLine then some y.length else none
  | .dic ks _ => some ks.length
  | _ => none
def bLen : Bf := fun xs h => match xs with
  | [x] => .ofO ((lenI (view h x)).map fun n => .int (n : Int)) h
  | _ => .bad
def rLenA (K : PySem.W.Frag) : List V → Hp → VK → Prop := fun xs H Q => (∃ x n, xs = [x] ∧ LenV K x H n ∧ Q (.int n) H) ∨ ∃ a kvs, xs = [V.ref a] ∧ H a = some (.dK kvs) ∧ Q (.int kvs.length) H
theorem call_lenA {X : Cx} : CallR X (.builtin "len") (rLenA X.K) := call_len.or call_lenD
theorem kOfs_len : ∀ {vs : List V} {kk : List Key}, kOfs vs = some kk → kk.length = vs.length
  | [], kk, e => by cases e; rfl
  | v :: r, kk, e => by
    simp only [kOfs] at e
    split at e
    · rename_i k ks e1 e2
      cases e
      rw [List.length_cons, List.length_cons, kOfs_len e2]
    · cases e
theorem b_len {G : Gx} : BF G (rLenA G.K) bLen := by
  intro O h φ H xs vs Q R r P
  unfold bLen at P
  split at P
  · rename_i x
    obtain ⟨v, rfl, ra⟩ := rvs1 r; replace r := ra
    have w := RW.view R r
    have fin : ∀ n, lenI (view h x) = some n → Q (.int (n : Nat)) H := fun n e => by
      rw [e] at P
      exact P φ H _ (Go.refl R) (by simp only [relV, RV])
    have none_ : lenI (view h x) = none → False := fun e => by
      rw [e] at P
      exact P
    cases q : view h x with
    | lst ys =>
      rw [q] at w fin
      obtain ⟨p, us, rfl, hq, r⟩ := w
      exact .inl ⟨_, ys.length, rfl, .inl ⟨us, SqL.of hq, r.length.symm⟩, fin _ rfl⟩
    | rdl ys =>
      rw [q] at w fin
      simp only [RW, RV] at w
      obtain ⟨p, us, rfl, hq, r⟩ := w
      exact .inl ⟨_, ys.length, rfl, .inl ⟨us, hq.sq, r.length.symm⟩, fin _ rfl⟩
    | tup ys =>
      rw [q] at w fin
      simp only [RW, RV] at w
      obtain ⟨p, us, rfl, hq, r⟩ := w
      exact .inl ⟨_, ys.length, rfl, .inr ⟨us, hq, r.length.symm⟩, fin _ rfl⟩
    | str y =>
      rw [q] at w fin none_
      simp only [RW, RV] at w
      by_cases hy : y.length ≤ sizeLine
      · exact .inl ⟨.str y, y.length, by rw [w], ⟨hy, rfl⟩, fin _ (by simp only [lenI, if_pos hy])⟩
      · exact (none_ (by simp only [lenI, if_neg hy])).elim
    | dic ks us =>
      rw [q] at w fin
      obtain ⟨p, ks', vs', rfl, ⟨kk, e1, e2, e3⟩, r1, r2⟩ := w
      refine .inr ⟨p, _, rfl, e3, ?_⟩
      have l : (kk.zip vs').length = ks.length := by
        rw [List.length_zip, kOfs_len e1, ← e2, Nat.min_self, r1.length]
      rw [l]
      exact fin _ rfl
    | _ =>
      rw [q] at none_
      exact (none_ rfl).elim
  · exact P.elim
theorem vals_ints : ∀ {xs : List IV} {ns : List Int} {lv : Addr → Prop} {φ : List Addr} {H : Hp} {G : Gx} {vs : List V}, RVs G lv φ H xs vs → intsOf xs = some ns → vs = ns.map V.int := by
  intro xs ns lv φ H G vs r e
  exact ints_of r e
def foldMax : List Int → Option Int
  | [] => none
  | n :: ns => some (ns.foldl max n)
def foldMin : List Int → Option Int
  | [] => none
  | n :: ns => some (ns.foldl min n)
theorem reads_ints {h : Heap} : ∀ {us : List Value} {ns : List Int}, Vals (ns.map V.int) us → ∃ as, ReadsAll h us (ns.map PyData.int) as
  | [], ns, r => by
    cases ns with
    | nil => exact ⟨_, ReadsAll.nil⟩
    | cons n ns => cases r
  | u :: us, ns, r => by
    cases ns with
    | nil => cases r
    | cons n ns =>
      cases r with
      | cons r1 r2 =>
        obtain ⟨t, rfl⟩ := r1
        obtain ⟨as, q⟩ := reads_ints r2
        exact ⟨_, ReadsAll.cons (Reads.int n t) q⟩
theorem alike_ints (ns : List Int) : PySem.W.AlikeAll (ns.map PyData.int) := by
  refine ⟨fun x hx y hy => ?_, fun x hx => ?_⟩
  · obtain ⟨i, _, rfl⟩ := List.mem_map.mp hx
    obtain ⟨j, _, rfl⟩ := List.mem_map.mp hy
    rfl
  · obtain ⟨i, _, rfl⟩ := List.mem_map.mp hx
    exact fun z => by cases z
theorem depth_ints : ∀ ns : List Int, PyData.depthAll (ns.map PyData.int) = 0
  | [] => rfl
  | n :: ns => by
    rw [List.map_cons, PyData.depthAll, depth_ints ns]
    rfl
def rMaxA (K : PySem.W.Frag) : List V → Hp → VK → Prop := fun vs H Q => ∃ (k : Sk) (n : Int) (ns : List Int), vs = [.ref k.adr] ∧ SqA K H k ((n :: ns).map V.int) ∧ Q (.int (ns.foldl max n)) H
def rMinA (K : PySem.W.Frag) : List V → Hp → VK → Prop := fun vs H Q => ∃ (k : Sk) (n : Int) (ns : List Int), vs = [.ref k.adr] ∧ SqA K H k ((n :: ns).map V.int) ∧ Q (.int (ns.foldl min n)) H
section
variable {X : Cx}
theorem cr_maxA (hc : X.calm = true) (hu : X.A.units + 64 < cLine) : CallR X (.builtin "max") (rMaxA X.K) := by
  intro pins s σ H vs us Q I r h
  obtain ⟨k, n, ns, rfl, hs, q⟩ := h
  have hd := depth_ints (n :: ns)
  cases k with
  | l a =>
    obtain ⟨its, rv, hl, _⟩ := I.list hs
    rw [Vals.ref1 r]
    obtain ⟨as, ra⟩ := reads_ints (h := s.heap) rv
    refine PySem.W.max_list_data (I.ok.hd hc) hl.isList (by simpa using ra) (alike_ints (n :: ns)) (by have e : PyData.depthAll (PyData.int n :: ns.map PyData.int) = 0 := hd; rw [e]; omega) fun i v h' tk bs _ rd hk => ?_
    rw [PySem.W.maxD_ints] at rd
    cases rd with
    | int _ t => exact ⟨.int _, H, I.kept hk, ⟨_, rfl⟩, q⟩
  | t a =>
    obtain ⟨its, rv, hl, _⟩ := I.tuple hs
    rw [Vals.ref1 r]
    obtain ⟨as, ra⟩ := reads_ints (h := s.heap) rv
    refine PySem.W.max_tuple_data (I.ok.hd hc) (show s.heap.IsTuple a its.toArray from hl) (by simpa using ra) (alike_ints (n :: ns)) (by have e : PyData.depthAll (PyData.int n :: ns.map PyData.int) = 0 := hd; rw [e]; omega) fun i v h' tk bs _ rd hk => ?_
    rw [PySem.W.maxD_ints] at rd
    cases rd with
    | int _ t => exact ⟨.int _, H, I.kept hk, ⟨_, rfl⟩, q⟩
theorem cr_minA (hc : X.calm = true) (hu : X.A.units + 64 < cLine) : CallR X (.builtin "min") (rMinA X.K) := by
  intro pins s σ H vs us Q I r h
  obtain ⟨k, n, ns, rfl, hs, q⟩ := h
  have hd := depth_ints (n :: ns)
  cases k with
  | l a =>
    obtain ⟨its, rv, hl, _⟩ := I.list hs
    rw [Vals.ref1 r]
    obtain ⟨as, ra⟩ := reads_ints (h := s.heap) rv
    refine PySem.W.min_list_data (I.ok.hd hc) hl.isList (by simpa using ra) (alike_ints (n :: ns)) (by have e : PyData.depthAll (PyData.int n :: ns.map PyData.int) = 0 := hd; rw [e]; omega) fun i v h' tk bs _ rd hk => ?_
    rw [PySem.W.minD_ints] at rd
    cases rd with
    | int _ t => exact ⟨.int _, H, I.kept hk, ⟨_, rfl⟩, q⟩
  | t a =>
    obtain ⟨its, rv, hl, _⟩ := I.tuple hs
    rw [Vals.ref1 r]
    obtain ⟨as, ra⟩ := reads_ints (h := s.heap) rv
    refine PySem.W.min_tuple_data (I.ok.hd hc) (show s.heap.IsTuple a its.toArray from hl) (by simpa using ra) (alike_ints (n :: ns)) (by have e : PyData.depthAll (PyData.int n :: ns.map PyData.int) = 0 := hd; rw [e]; omega) fun i v h' tk bs _ rd hk => ?_
    rw [PySem.W.minD_ints] at rd
    cases rd with
    | int _ t => exact ⟨.int _, H, I.kept hk, ⟨_, rfl⟩, q⟩
/-- max(xs, default=d) -/
def rMaxDf (K : PySem.W.Frag) : List V → List V → Hp → VK → Prop := fun vs zs H Q => ∃ (k : Sk) (ns : List Int) (d : Int), vs = [.ref k.adr] ∧ zs = [.int d] ∧ SqA K H k (ns.map V.int) ∧ Q (.int ((foldMax ns).getD d)) H
theorem cr_maxDf (hc : X.calm = true) (hu : X.A.units + 64 < cLine) : CallRK X (.builtin "max") [Str.ofString "default"] (rMaxDf X.K) := by
  intro pins s σ H vs zs us ws Q I r rz h
  obtain ⟨k, ns, d, rfl, rfl, hs, q⟩ := h
  have hd := depth_ints ns
  obtain ⟨w0, rfl, t0, rfl⟩ := vals1 rz
  have fin : ∀ (y : PyData) (ys : List PyData) (v : Value) (h' : Heap) (tk : Nat) (bs : List Addr), ns.map PyData.int = y :: ys → Reads h' v (PySem.W.maxD y ys) bs → (∀ b o, s.heap.get? b = some o → h'.get? b = some o) → EP X pins σ Q v { s with heap := h', toks := tk } := fun y ys v h' tk bs e rd hk => by
    cases ns with
    | nil => cases e
    | cons n ns =>
      cases e
      rw [PySem.W.maxD_ints] at rd
      cases rd with
      | int _ t => exact ⟨.int _, H, I.kept hk, ⟨_, rfl⟩, q⟩
  have fin0 : ns.map PyData.int = [] → ∀ (h' : Heap) (tk : Nat), (∀ b o, s.heap.get? b = some o → h'.get? b = some o) → EP X pins σ Q (.int d t0) { s with heap := h', toks := tk } := fun e h' tk hk => by
    cases ns with
    | nil => exact ⟨.int d, H, I.kept hk, ⟨_, rfl⟩, q⟩
    | cons n ns => cases e
  cases k with
  | l a =>
    obtain ⟨its, rv, hl, _⟩ := I.list hs
    rw [Vals.ref1 r]
    obtain ⟨as, ra⟩ := reads_ints (h := s.heap) rv
    exact PySem.W.max_list_default (I.ok.hd hc) hl.isList (by simpa using ra) (alike_ints ns) (by rw [hd]; omega) fin0 fun y ys i v h' tk bs e _ rd hk => fin y ys v h' tk bs e rd hk
  | t a =>
    obtain ⟨its, rv, hl, _⟩ := I.tuple hs
    rw [Vals.ref1 r]
    obtain ⟨as, ra⟩ := reads_ints (h := s.heap) rv
    exact PySem.W.max_tuple_default (I.ok.hd hc) (show s.heap.IsTuple a its.toArray from hl) (by simpa using ra) (alike_ints ns) (by rw [hd]; omega) fin0 fun y ys i v h' tk bs e _ rd hk => fin y ys v h' tk bs e rd hk
end
def bMax : Bf := fun xs h => match xs with
  | [.int i, .int j] => .ok (.int (if j > i then j else i)) h
  | [x] => match (skI (view h x)).bind intsOf with
    | some ns => match foldMax ns with
      | some m => .ok (.int m) h
      | none => .bad
    | none => .bad
  | _ => .bad
def bMin : Bf := fun xs h => match xs with
  | [.int i, .int j] => .ok (.int (if j < i then j else i)) h
  | [x] => match (skI (view h x)).bind intsOf with
    | some ns => match foldMin ns with
      | some m => .ok (.int m) h
      | none => .bad
    | none => .bad
  | _ => .bad
def rMaxB (K : PySem.W.Frag) : List V → Hp → VK → Prop := fun xs H Q => (∃ i j, xs = [.int i, .int j] ∧ Q (.int (if j > i then j else i)) H) ∨ rMaxA K xs H Q
def rMinB (K : PySem.W.Frag) : List V → Hp → VK → Prop := fun xs H Q => (∃ i j, xs = [.int i, .int j] ∧ Q (.int (if j < i then j else i)) H) ∨ rMinA K xs H Q
theorem call_maxB {X : Cx} (hc : X.calm = true) (hu : X.A.units + 64 < cLine) : CallR X (.builtin "max") (rMaxB X.K) := (call_max2 hc).or (cr_maxA hc hu)
theorem call_minB {X : Cx} (hc : X.calm = true) (hu : X.A.units + 64 < cLine) : CallR X (.builtin "min") (rMinB X.K) := (call_min2 hc).or (cr_minA hc hu)
theorem b_max {G : Gx} : BF G (rMaxB G.K) bMax := by
  intro O h φ H xs vs Q R r P
  unfold bMax at P
  split at P
  · rename_i i j
    obtain ⟨v, w, rfl, ra, r2⟩ := rvs2 r; replace r := ra
    simp only [RV] at r r2
    exact .inl ⟨i, j, by rw [r, r2], P φ H _ (Go.refl R) (by simp only [relV, RV])⟩
  · rename_i x
    obtain ⟨v, rfl, ra⟩ := rvs1 r; replace r := ra
    split at P
    · rename_i ns e
      split at P
      · rename_i m em
        obtain ⟨ys, e1, e2⟩ := Option.bind_eq_some_iff.mp e
        obtain ⟨k, us, rfl, ru, hq⟩ := skw_of R r e1
        have ei := ints_of ru e2
        cases ns with
        | nil => cases em
        | cons n ns =>
          cases em
          exact .inr ⟨k, n, ns, rfl, ei ▸ hq, P φ H _ (Go.refl R) (by simp only [relV, RV])⟩
      · exact P.elim
    · exact P.elim
  · exact P.elim
theorem b_min {G : Gx} : BF G (rMinB G.K) bMin := by
  intro O h φ H xs vs Q R r P
  unfold bMin at P
  split at P
  · rename_i i j
    obtain ⟨v, w, rfl, ra, r2⟩ := rvs2 r; replace r := ra
    simp only [RV] at r r2
    exact .inl ⟨i, j, by rw [r, r2], P φ H _ (Go.refl R) (by simp only [relV, RV])⟩
  · rename_i x
    obtain ⟨v, rfl, ra⟩ := rvs1 r; replace r := ra
    split at P
    · rename_i ns e
      split at P
      · rename_i m em
        obtain ⟨ys, e1, e2⟩ := Option.bind_eq_some_iff.mp e
        obtain ⟨k, us, rfl, ru, hq⟩ := skw_of R r e1
        have ei := ints_of ru e2
        cases ns with
        | nil => cases em
        | cons n ns =>
          cases em
          exact .inr ⟨k, n, ns, rfl, ei ▸ hq, P φ H _ (Go.refl R) (by simp only [relV, RV])⟩
      · exact P.elim
    · exact P.elim
  · exact P.elim
def mMaxDf (fa fd : Mv) : Mv := fun env h => (fa env h).bind fun x h1 => (fd env h1).bind fun d h2 => match (skI (view h2 x)).bind intsOf, d with
  | some ns, .int d => .ok (.int ((foldMax ns).getD d)) h2
  | _, _ => .bad
theorem s_maxDf {X : Cx} {G : Gx} {e d : Expr} {fa fd : Mv} {p pos kpos : Pos} (hK : G.K = X.K) (hc : X.calm = true) (hu : X.A.units + 64 < cLine) (hg : Gl X "max") (hm : X.mg "max" = none) (ha : PE X e (rE G fa)) (hd : PE X d (rE G fd)) (hv : bootBuiltins "max" = some (.builtin "max") := by rfl)
    (hs : starEach [e] X.env = (false, eval e X.env) :: starEach [] X.env := by rfl) (he : backTo pos (starEach [e] X.env) = (false, eval e X.env) :: backTo pos (starEach [] X.env) := by rfl) (hpl : (backTo pos (starEach [e] X.env)).any (·.1) = false := by rfl)
    (hall : (backToKw pos (keywordEach [⟨some "default", d, kpos⟩] X.env)).all (·.1.isSome) = true := by rfl) (hnone : (backToKw pos (keywordEach [⟨some "default", d, kpos⟩] X.env)).any (·.1.isNone) = false := by rfl) (hks : (backToKw pos (keywordEach [⟨some "default", d, kpos⟩] X.env)).filterMap (·.1) = [Str.ofString "default"] := by rfl) :
    PE X (.Call (.Name "max" p) [e] [⟨some "default", d, kpos⟩] pos) (rE G (mMaxDf fa fd)) := by
  refine PEimp (pe_callBK (cr_maxDf hc hu) hg hm hv (pa_cons ha pa_nil hs) (pk_cons hd pk_nil) (by decide) (by decide) he hpl hall hnone hks) fun σ H Q ⟨O, h, φ, env, R, E, P⟩ => ?_
  refine ⟨O, h, φ, env, R, E, (P.bind (rel := relV G)).mono fun v H1 ⟨x, h1, φ1, _, g1, r1, P1⟩ => ?_⟩
  refine ⟨O, h1, φ1, env, g1.rep, E.go R g1, (P1.bind (rel := relV G)).mono fun v2 H2 ⟨x2, h2, φ2, _, g2, r2, P2⟩ => ?_⟩
  have r1' := relV.go g1.rep g2 r1
  cases q : (skI (view h2 x)).bind intsOf with
  | none =>
    rw [q] at P2
    exact P2.elim
  | some ns =>
    rw [q] at P2
    cases x2 with
    | int d =>
      simp only [relV, RV] at r2
      obtain ⟨ys, e1, e2⟩ := Option.bind_eq_some_iff.mp q
      obtain ⟨k, us, rfl, ru, hq⟩ := skw_of g2.rep r1' e1
      have ei := ints_of ru e2
      exact ⟨k, ns, d, rfl, by rw [r2], hK ▸ ei ▸ hq, P2 φ2 H2 _ (Go.refl g2.rep) (by simp only [relV, RV])⟩
    | _ => exact P2.elim
/-- sum of a list of ints, all, any -/
def bSum : Bf := fun xs h => match xs with
  | [x] => match (lstI (view h x)).bind intsOf with
    | some ns => .ok (.int ns.sum) h
    | none => .bad
  | _ => .bad
theorem b_sum {G : Gx} : BF G (rSum G.K) bSum := by
  intro O h φ H xs vs Q R r P
  unfold bSum at P
  split at P
  · rename_i x
    obtain ⟨v, rfl, ra⟩ := rvs1 r; replace r := ra
    split at P
    · rename_i ns e
      obtain ⟨ys, e1, e2⟩ := Option.bind_eq_some_iff.mp e
      obtain ⟨p, us, rfl, ru, hq⟩ := lstw_of R r e1
      have ei := ints_of ru e2
      exact ⟨p, ns, rfl, ei ▸ hq, P φ H _ (Go.refl R) (by simp only [relV, RV])⟩
    · exact P.elim
  · exact P.elim
def bAll : Bf := fun xs h => match xs with
  | [x] => match (lstI (view h x)).bind blsOf with
    | some bs => .ok (.bl (bs.all id)) h
    | none => .bad
  | _ => .bad
def bAny : Bf := fun xs h => match xs with
  | [x] => match (lstI (view h x)).bind blsOf with
    | some bs => .ok (.bl (bs.any id)) h
    | none => .bad
  | _ => .bad
theorem b_all {G : Gx} : BF G (rAll G.K) bAll := by
  intro O h φ H xs vs Q R r P
  unfold bAll at P
  split at P
  · rename_i x
    obtain ⟨v, rfl, ra⟩ := rvs1 r; replace r := ra
    split at P
    · rename_i bs e
      obtain ⟨ys, e1, e2⟩ := Option.bind_eq_some_iff.mp e
      obtain ⟨p, us, rfl, ru, hq⟩ := lstw_of R r e1
      have ei := bls_of ru e2
      exact ⟨p, bs, rfl, ei ▸ hq, P φ H _ (Go.refl R) (by simp only [relV, RV])⟩
    · exact P.elim
  · exact P.elim
theorem b_any {G : Gx} : BF G (rAny G.K) bAny := by
  intro O h φ H xs vs Q R r P
  unfold bAny at P
  split at P
  · rename_i x
    obtain ⟨v, rfl, ra⟩ := rvs1 r; replace r := ra
    split at P
    · rename_i bs e
      obtain ⟨ys, e1, e2⟩ := Option.bind_eq_some_iff.mp e
      obtain ⟨p, us, rfl, ru, hq⟩ := lstw_of R r e1
      have ei := bls_of ru e2
      exact ⟨p, bs, rfl, ei ▸ hq, P φ H _ (Go.refl R) (by simp only [relV, RV])⟩
    · exact P.elim
  · exact P.elim
/-- tuple(xs), list(xs) -/
def rTupleOf (K : PySem.W.Frag) : List V → Hp → VK → Prop := fun xs H Q => ∃ p ys, xs = [.ref p] ∧ ((SqL K H p ys ∧ ∀ l, H l = none → Q (.ref l) (upd H l (.tup ys))) ∨ (SqT K H p ys ∧ Q (.ref p) H))
def rListOf (K : PySem.W.Frag) : List V → Hp → VK → Prop := fun xs H Q => ∃ p ys, xs = [.ref p] ∧ (SqL K H p ys ∨ SqT K H p ys) ∧ ∀ l, H l = none → Q (.ref l) (upd H l (.lst ys))
def bTuple : Bf := fun xs h => match xs with
  | [x] => match skI (view h x) with
    | some ys => .ok (.tup ys) h
    | none => .bad
  | _ => .bad
theorem b_tuple {G : Gx} : BF G (rTupleOf G.K) bTuple := by
  intro O h φ H xs vs Q R r P
  unfold bTuple at P
  split at P
  · rename_i x
    obtain ⟨v, rfl, ra⟩ := rvs1 r; replace r := ra
    split at P
    · rename_i ys e
      obtain ⟨k, us, rfl, ru, hq⟩ := skw_of R r e
      cases k with
      | l p => exact ⟨p, us, rfl, .inl ⟨hq, fun l n => P φ _ _ (Go.same R (same_upd n)) (RV.newT R.ok n ru)⟩⟩
      | t p =>
        refine ⟨p, us, rfl, .inr ⟨hq, P φ H _ (Go.refl R) ?_⟩⟩
        simp only [relV, RV]
        exact ⟨p, us, rfl, hq, ru⟩
    · exact P.elim
  · exact P.elim
/-- a list that changes no more; one that may -/
def bList : Bf := fun xs h => match xs with
  | [x] => match skI (view h x) with
    | some ys => .ok (.lst ys) h
    | none => .bad
  | _ => .bad
def bListL : Bf := fun xs h => match xs with
  | [x] => match skI (view h x) with
    | some ys => .ok (.ref h.length) (h ++ [some (.lst ys)])
    | none => .bad
  | _ => .bad
theorem b_list {G : Gx} : BF G (rListOf G.K) bList := by
  intro O h φ H xs vs Q R r P
  unfold bList at P
  split at P
  · rename_i x
    obtain ⟨v, rfl, ra⟩ := rvs1 r; replace r := ra
    split at P
    · rename_i ys e
      obtain ⟨k, us, rfl, ru, hq⟩ := skw_of R r e
      refine ⟨k.adr, us, rfl, ?_, fun l n => P φ _ _ (Go.same R (same_upd n)) (RV.newL R.ok n ru)⟩
      cases k with
      | l p => exact .inl hq
      | t p => exact .inr hq
    · exact P.elim
  · exact P.elim
theorem post_new {G : Gx} {O : Addr → Prop} {h : IH} {φ : List Addr} {H : Hp} {Q : VK} {ys : List IV} {us : List V} {l : Addr} (R : Rep G O h φ H) (n : H l = none) (ru : RVs G (Lv O h φ) φ H ys us) (P : Post (relV G) G O h φ H (.ok (.ref h.length) (h ++ [some (.lst ys)])) Q) : Q (.ref l) (upd H l (.lst us)) := by
  have al := R.alloc (o := .lst ys) (ho := .lst us) n trivial fun lv φ' xx => ⟨us, upd_same, RVs.mono xx R.ok _ ru⟩
  refine P (φ ++ [l]) _ _ al ?_
  simp only [relV, RV]
  refine ⟨l, ?_, rfl⟩
  rw [← R.len, List.getElem?_append_right (Nat.le_refl _)]
  simp
theorem b_listL {G : Gx} : BF G (rListOf G.K) bListL := by
  intro O h φ H xs vs Q R r P
  unfold bListL at P
  split at P
  · rename_i x
    obtain ⟨v, rfl, ra⟩ := rvs1 r; replace r := ra
    split at P
    · rename_i ys e
      obtain ⟨k, us, rfl, ru, hq⟩ := skw_of R r e
      refine ⟨k.adr, us, rfl, ?_, fun l n => post_new R n ru P⟩
      cases k with
      | l p => exact .inl hq
      | t p => exact .inr hq
    · exact P.elim
  · exact P.elim
end Iv

/-! IvO: sorted texts. -/
namespace Iv
open PySem PySem.Spec PyProof.Rows L2

/-! ### the order of texts -/
def strLe (a b : Str) : Prop := ltCps b.cps.toList a.cps.toList = false
theorem cps_tri : ∀ (a b : List Nat), ltCps a b = false → ltCps b a = false → a = b
  | [], [], _, _ => rfl
  | [], _ :: _, h, _ => by simp [ltCps] at h
  | _ :: _, [], _, h => by simp [ltCps] at h
  | x :: a, y :: b, h1, h2 => by
    simp only [ltCps, Bool.or_eq_false_iff, decide_eq_false_iff_not, Bool.and_eq_false_iff, beq_eq_false_iff_ne] at h1 h2
    have e : x = y := by omega
    subst e
    have h3 : ltCps a b = false := h1.2.resolve_left (by simp)
    have h4 : ltCps b a = false := h2.2.resolve_left (by simp)
    rw [cps_tri a b h3 h4]
theorem cps_tot : ∀ (a b : List Nat), ltCps a b = false ∨ ltCps b a = false
  | [], [] => .inl rfl
  | [], _ :: _ => .inr rfl
  | _ :: _, [] => .inl rfl
  | x :: a, y :: b => by
    by_cases h : x < y
    · right
      have : ¬ y < x := by omega
      have n : ¬ y = x := by omega
      simp [ltCps, this, n]
    · by_cases e : x = y
      · subst e
        rcases cps_tot a b with q | q
        · left
          simp [ltCps, q]
        · right
          simp [ltCps, q]
      · left
        have n : ¬ x = y := e
        simp [ltCps, h, n]
theorem cps_trans : ∀ (a b c : List Nat), ltCps b a = false → ltCps c b = false → ltCps c a = false
  | [], b, c, _, _ => by cases c <;> rfl
  | x :: a, [], c, h1, h2 => by simp [ltCps] at h1
  | x :: a, y :: b, [], h1, h2 => by simp [ltCps] at h2
  | x :: a, y :: b, z :: c, h1, h2 => by
    simp only [ltCps, Bool.or_eq_false_iff, decide_eq_false_iff_not, Bool.and_eq_false_iff, beq_eq_false_iff_ne] at h1 h2 ⊢
    refine ⟨by omega, ?_⟩
    by_cases e : z = x
    · subst e
      have e2 : y = z := by omega
      subst e2
      exact .inr (cps_trans a b c (h1.2.resolve_left (by simp)) (h2.2.resolve_left (by simp)))
    · exact .inl e
def insS (x : Str) : List Str → List Str
  | [] => [x]
  | y :: r => if ltCps y.cps.toList x.cps.toList = true then y :: insS x r else x :: y :: r
def isortS : List Str → List Str
  | [] => []
  | x :: r => insS x (isortS r)
theorem insS_perm (x : Str) : ∀ l : List Str, (insS x l).Perm (x :: l)
  | [] => List.Perm.refl _
  | y :: r => by
    unfold insS
    split
    · exact ((insS_perm x r).cons y).trans (List.Perm.swap x y r)
    · exact List.Perm.refl _
theorem isortS_perm : ∀ l : List Str, (isortS l).Perm l
  | [] => List.Perm.refl _
  | x :: r => (insS_perm x _).trans ((isortS_perm r).cons x)
theorem insS_sorted (x : Str) : ∀ l : List Str, l.Pairwise strLe → (insS x l).Pairwise strLe
  | [], _ => by simp [insS]
  | y :: r, h => by
    unfold insS
    have h1 := List.pairwise_cons.mp h
    split
    · rename_i q
      refine List.pairwise_cons.mpr ⟨fun z hz => ?_, insS_sorted x r h1.2⟩
      rcases List.mem_cons.mp ((insS_perm x r).mem_iff.mp hz) with e | e
      · rw [e]
        rcases cps_tot x.cps.toList y.cps.toList with t | t
        · exact t
        · rw [t] at q
          cases q
      · exact h1.1 z e
    · rename_i q
      have q' : ltCps y.cps.toList x.cps.toList = false := by simpa using q
      refine List.pairwise_cons.mpr ⟨fun z hz => ?_, h⟩
      rcases List.mem_cons.mp hz with e | e
      · rw [e]
        exact q'
      · exact cps_trans _ _ _ q' (h1.1 z e)
theorem isortS_sorted : ∀ l : List Str, (isortS l).Pairwise strLe
  | [] => List.Pairwise.nil
  | x :: r => insS_sorted x _ (isortS_sorted r)
theorem rising_pw : ∀ (p : Str) (l : List Str), risingS p l = true → (p :: l).Pairwise strLe
  | p, [], _ => by simp
  | p, x :: r, h => by
    have h' : (!ltCps x.cps.toList p.cps.toList && risingS x r) = true := h
    rw [Bool.and_eq_true] at h'
    have h1 : ltCps x.cps.toList p.cps.toList = false := by simpa using h'.1
    have ih := rising_pw x r h'.2
    refine List.pairwise_cons.mpr ⟨fun z hz => ?_, ih⟩
    rcases List.mem_cons.mp hz with e | e
    · rw [e]
      exact h1
    · exact cps_trans _ _ _ h1 ((List.pairwise_cons.mp ih).1 z e)
theorem sorted_pw : ∀ l : List Str, sortedS l = true → l.Pairwise strLe
  | [], _ => List.Pairwise.nil
  | x :: r, h => rising_pw x r h
theorem str_ext {a b : Str} (h : a.cps.toList = b.cps.toList) : a = b := by
  cases a
  cases b
  rename_i x y
  cases x
  cases y
  simp at h
  subst h
  rfl
theorem isort_unique {ys xs : List Str} (p : ys.Perm xs) (s : sortedS ys = true) : ys = isortS xs :=
  List.Perm.eq_of_pairwise (le := strLe) (fun a b _ _ h1 h2 => str_ext (cps_tri _ _ h2 h1)) (sorted_pw ys s) (isortS_sorted xs) (p.trans (isortS_perm xs).symm)

/-! ### sorted of a tuple -/
section
variable {prog : Program} {w : World} {A : Around} {E : Value → Shared → Prop} {s : Shared}
theorem collect_tuple {l : Addr} {vs : List Value} {Q : List Value → Shared → Prop} (hl : s.heap.IsTuple l vs.toArray)
    (h : Q vs { s with heap := (s.heap.push (seqObj "list" #[] 0)).update s.heap.objs.size (Obj.mapSeq (· ++ vs.toArray)) }) (hsz : vs.length ≤ sizeLine) :
    wpAny (model prog w) A (collect (.ref l)) Q E s := by
  obtain ⟨o, ho, hc, n, hd⟩ := id hl
  unfold collect
  refine wpAny_bind (wpAny_runValue (codeAny_builtin entry_proto_collect' ?_))
  show wpAny _ _ (do again (.builtin "list.__iadd__" ⟨[← newList [], .ref l], []⟩)) _ _ s
  refine wpAny_bind (wpAny_newList (wpAny_pure ⟨Code.quiet_builtin _ (by decide +kernel), codeAny_builtin entry_list_iadd' ?_⟩))
  show wpAny _ _ (Builtin.List.listExtendWith (.ref s.heap.objs.size) (.ref l) (.ref s.heap.objs.size)) _ _ { s with heap := s.heap.push (seqObj "list" #[] 0) }
  unfold Builtin.List.listExtendWith
  have ho' : (s.heap.push (seqObj "list" #[] 0)).get? l = some o := Heap.get?_push_of_some _ ho
  refine wpAny_bind (wpAny_typeOf (T := "tuple") ⟨o, ho', hc⟩ ?_)
  have ht : (Value.type "tuple" == Value.type "tuple") = true := by rfl
  rw [if_pos (by rw [ht]; simp)]
  refine wpAny_bind (listItems_at ho' hd ?_)
  refine wpAny_bind (listItems_at (xs := #[]) (n := 0) (Heap.get?_push_size _ rfl) rfl ?_)
  rw [if_neg (by simp)]
  refine wpAny_bind (listUpdate_at (xs := #[]) (n := 0) (Heap.get?_push_size _ rfl) rfl ?_ (Nat.zero_le _) (by show (#[] ++ vs.toArray).size ≤ sizeLine + 1; simp only [Array.size_append, List.size_toArray, List.length_nil]; omega))
  refine wpAny_pure ?_
  show wpAny (model prog w) A (do
      let o ← load s.heap.objs.size
      match o.data with
      | .seq xs _ => pure xs.toList
      | _ => unsupported "internal:collect") Q E { s with heap := (s.heap.push (seqObj "list" #[] 0)).update s.heap.objs.size (Obj.mapSeq (· ++ vs.toArray)) }
  refine wpAny_bind (wpAny_load (get?_update_seq (Heap.get?_push_size _ rfl) _) ?_)
  show wpAny _ _ (pure ((#[] : Array Value) ++ vs.toArray).toList) Q E _
  rw [show ((#[] : Array Value) ++ vs.toArray).toList = vs by simp]
  exact wpAny_pure h
theorem sortedKT {κ : PyProof.Rows.KeyKind} (hO : κ.OneLt) {l : Addr} {vs : List Value} {Q : Value → Shared → Prop} (hl : s.heap.IsTuple l vs.toArray) (h0 : KeysOf κ (pairsOf vs)) (hkk : ∀ v₁ v₂ rest, vs = v₁ :: v₂ :: rest → keyKind' (v₁ :: v₂ :: rest).toArray = pure oneType') (h64 : vs.length < 64)
    (h : ∀ st' : SortSt, (arrOf st').Perm (pairsOf vs) → SortedToK κ (arrOf st') (pairsOf vs).size → Q (.ref (s.heap.objs.size + 1)) { s with heap := sortedAll s.heap vs ((arrOf st').map (·.2)) }) :
    wpAny (model prog w) A (call (.builtin "sorted") [.ref l]) Q E s := by
  refine Calls.call_function_entry kind_sorted plain_sorted entry_sorted (args_sorted1 _) ?_
  unfold Builtin.«sorted»
  refine wpAny_bind (m := checkCount "sorted" 1 1 _) (wpAny_pure ?_)
  refine wpAny_bind (collect_tuple hl ?_ (L2.small64 h64))
  refine wpAny_bind (wpAny_newList ?_ (L2.small64 h64))
  have hsz : ((s.heap.push (seqObj "list" #[] 0)).update s.heap.objs.size (Obj.mapSeq (· ++ vs.toArray))).objs.size = s.heap.objs.size + 1 := by
    rw [Heap.size_update, size_push']
  have hoL : (((s.heap.push (seqObj "list" #[] 0)).update s.heap.objs.size (Obj.mapSeq (· ++ vs.toArray))).push (seqObj "list" vs.toArray 0)).get? (s.heap.objs.size + 1) = some (seqObj "list" vs.toArray 0) := by
    rw [← hsz]; exact Heap.get?_push_size _ rfl
  show wpAny _ _ _ _ _ { s with heap := ((s.heap.push (seqObj "list" #[] 0)).update s.heap.objs.size (Obj.mapSeq (· ++ vs.toArray))).push (seqObj "list" vs.toArray 0) }
  rw [hsz]
  refine wpAny_bind (wpAny_holding (wpAny_call_entry slot_list_sort ⟨_, hoL, rfl⟩ entry_list_sort (list_sort_treeK hO hoL h0 hkk h64 fun st' a1 a2 => ⟨_, rfl, ?_⟩) (args_list_sort _)))
  exact wpAny_pure ⟨_, rfl, h st' a1 a2⟩
end
def rSortS (K : PySem.W.Frag) : List V → Hp → VK → Prop := fun vs H Q => ∃ (k : Sk) (xs : List Str), vs = [V.ref k.adr] ∧ SqA K H k (xs.map V.str) ∧ xs.length < 64 ∧ ∀ p, H p = none → Q (.ref p) (upd H p (.lst ((isortS xs).map V.str)))
section
variable {X : Cx}
theorem cr_sortS : CallR X (.builtin "sorted") (rSortS X.K) := by
  intro pins s σ H vs us Q I r h
  obtain ⟨k, xs, rfl, hs, h64, q⟩ := h
  cases k with
  | l a =>
    exact cr_sortedS pins s σ H _ us Q I r ⟨a, xs, rfl, hs, h64, fun ys p hp hs hn => by rw [isort_unique hp hs]; exact q p hn⟩
  | t a =>
    obtain ⟨its, rv, hl, _⟩ := I.tuple hs
    rw [Vals.ref1 r]
    have hlen0 := rv.length
    rw [List.length_map] at hlen0
    have hS := rv.strs
    refine sortedKT strKind_oneLt (show s.heap.IsTuple a its.toArray from hl) hS.keysOf (fun v₁ v₂ rest e => keyKind_strs (by rw [← e]; exact hS)) (by rw [← hlen0]; exact h64) fun st' hp hs => ?_
    obtain ⟨ys, h1, h2, h3⟩ := sorted_out_str hS hp hs
    obtain ⟨ep, he'⟩ := PyProof.Rows.sortedAll_at s.heap its ((arrOf st').map (·.2))
    have hlen : (ys.map V.str).length ≤ sizeLine := by rw [List.length_map, h2.length_eq]; exact small64 h64
    refine ⟨.ref _, upd H (s.heap.objs.size + 1) (.lst (ys.map V.str)), I.laid (t' := s.toks) (fun _ _ => PyProof.Rows.sortedAll_old) (Nat.le_succ _) ⟨hlen, ((arrOf st').map (·.2)).toList, ep, vals_of_strs h1, he'⟩, rfl, ?_⟩
    rw [isort_unique h2 h3]
    exact q _ (I.hok.fresh (Nat.le_succ _))
end
def bSort : Bf := fun xs h => match xs with
  | [x] => match (skI (view h x)).bind strsOf with
    | some ss => if ss.length < 64 then .ok (.lst ((isortS ss).map .str)) h else .bad
    | none => .bad
  | _ => .bad
theorem rvs_strs {G : Gx} {lv : Addr → Prop} {φ : List Addr} {H : Hp} : ∀ (ss : List Str), RVs G lv φ H (ss.map .str) (ss.map V.str)
  | [] => by simp [RVs]
  | s :: ss => by
    simp only [List.map_cons, RVs, RV]
    exact ⟨_, _, rfl, rfl, rvs_strs ss⟩
theorem b_sort {G : Gx} : BF G (rSortS G.K) bSort := by
  intro O h φ H xs vs Q R r P
  unfold bSort at P
  split at P
  · rename_i x
    obtain ⟨v, rfl, ra⟩ := rvs1 r; replace r := ra
    split at P
    · rename_i ss e
      by_cases hl : ss.length < 64
      · rw [if_pos hl] at P
        obtain ⟨ys, e1, e2⟩ := Option.bind_eq_some_iff.mp e
        obtain ⟨k, us, rfl, ru, hq⟩ := skw_of R r e1
        have ei := strs_of ru e2
        exact ⟨k, ss, rfl, ei ▸ hq, hl, fun p n => P φ _ _ (Go.same R (same_upd n)) (RV.newL R.ok n (rvs_strs _))⟩
      · rw [if_neg hl] at P
        exact P.elim
    · exact P.elim
  · exact P.elim
end Iv

/-! IvP: dicts with ints and texts as keys. -/
namespace Iv
open PySem PySem.Spec PyProof.Rows L2

def kI : IV → Option Key
  | .int i => some (.inl i)
  | .str s => some (.inr s)
  | _ => none
def kIs : List IV → Option (List Key)
  | [] => some []
  | x :: xs => match kI x, kIs xs with
    | some k, some ks => some (k :: ks)
    | _, _ => none
/-- what stands at k, and the same with v there -/
def dgetI (k : Key) : List IV → List IV → Option IV
  | x :: ks, v :: vs => if kI x = some k then some v else dgetI k ks vs
  | _, _ => none
def dmapI (k : Key) (z : IV) : List IV → List IV → List IV
  | y :: ks, v :: vs => (if kI y = some k then z else v) :: dmapI k z ks vs
  | _, _ => []
def dhasI (k : Key) (ks : List IV) : Bool := ks.any fun y => decide (kI y = some k)
def dputI (x : IV) (k : Key) (z : IV) (ks vs : List IV) : List IV × List IV := if dhasI k ks = true then (ks, dmapI k z ks vs) else (ks ++ [x], vs ++ [z])
section
variable {G : Gx} {lv : Addr → Prop} {φ : List Addr} {H : Hp}
theorem kI_of {x : IV} {v : V} {k : Key} (r : RV G lv φ H x v) (e : kI x = some k) : v = kV k := by
  cases x <;> simp only [kI] at e <;> cases e <;> simp only [RV] at r <;> rw [r] <;> rfl
theorem kO_kV {k : Key} : kOf (kV k) = some k := by cases k <;> rfl
theorem kI_back {x : IV} {k : Key} (r : RV G lv φ H x (kV k)) : kI x = some k := by
  cases x with
  | int i =>
    simp only [RV] at r
    cases k with
    | inl j =>
      have e : V.int j = V.int i := r
      cases e
      rfl
    | inr j =>
      have e : V.str j = V.int i := r
      cases e
  | str i =>
    simp only [RV] at r
    cases k with
    | inl j =>
      have e : V.int j = V.str i := r
      cases e
    | inr j =>
      have e : V.str j = V.str i := r
      cases e
      rfl
  | non =>
    simp only [RV] at r
    cases k <;> cases r
  | bl b =>
    simp only [RV] at r
    cases k <;> cases r
  | tup _ =>
    simp only [RV] at r
    obtain ⟨p, _, e, _⟩ := r
    cases k <;> cases e
  | tpx _ =>
    simp only [RV] at r
    obtain ⟨p, _, e, _⟩ := r
    cases k <;> cases e
  | rng _ _ =>
    simp only [RV] at r
    obtain ⟨p, e, _⟩ := r
    cases k <;> cases e
  | lst _ =>
    simp only [RV] at r
    obtain ⟨p, _, e, _⟩ := r
    cases k <;> cases e
  | rdl _ =>
    simp only [RV] at r
    obtain ⟨p, _, e, _⟩ := r
    cases k <;> cases e
  | dic _ _ =>
    simp only [RV] at r
    obtain ⟨p, _, _, e, _⟩ := r
    cases k <;> cases e
  | dcn _ _ =>
    simp only [RV] at r
    obtain ⟨p, _, _, _, e, _⟩ := r
    cases k <;> cases e
  | ins _ _ _ =>
    simp only [RV] at r
    obtain ⟨p, _, _, e, _⟩ := r
    cases k <;> cases e
  | ref _ =>
    simp only [RV] at r
    obtain ⟨p, _, e⟩ := r
    cases k <;> cases e
theorem kOf_kV {v : V} {k : Key} (e : kOf v = some k) : v = kV k := by
  cases v <;> simp only [kOf] at e <;> cases e <;> rfl
/-- the pairs of a dict -/
inductive Prs (G : Gx) (lv : Addr → Prop) (φ : List Addr) (H : Hp) : List IV → List IV → List (Key × V) → Prop
  | nil : Prs G lv φ H [] [] []
  | cons {x y : IV} {ks vs : List IV} {k : Key} {v : V} {r : List (Key × V)} : kI x = some k → RV G lv φ H x (kV k) → RV G lv φ H y v → Prs G lv φ H ks vs r → Prs G lv φ H (x :: ks) (y :: vs) ((k, v) :: r)
theorem prs_of : ∀ {ks vs : List IV} {ks' vs' : List V} {kk : List Key}, kOfs ks' = some kk → ks'.length = vs'.length → RVs G lv φ H ks ks' → RVs G lv φ H vs vs' → Prs G lv φ H ks vs (kk.zip vs')
  | [], vs, ks', vs', kk, e, l, r1, r2 => by
    simp only [RVs] at r1
    subst r1
    cases e
    have l' : vs' = [] := List.eq_nil_of_length_eq_zero l.symm
    subst l'
    have lv0 := r2.length
    have : vs = [] := List.eq_nil_of_length_eq_zero lv0.symm
    subst this
    exact .nil
  | x :: ks, vs, ks', vs', kk, e, l, r1, r2 => by
    simp only [RVs] at r1
    obtain ⟨v, r, rfl, a1, a2⟩ := r1
    simp only [kOfs] at e
    split at e
    · rename_i k kk' e1 e2
      cases e
      cases vs with
      | nil =>
        simp only [RVs] at r2
        subst r2
        cases l
      | cons y vs =>
        simp only [RVs] at r2
        obtain ⟨u, r', rfl, b1, b2⟩ := r2
        have ev := kOf_kV e1
        subst ev
        exact .cons (kI_back a1) a1 b1 (prs_of e2 (Nat.succ.inj l) a2 b2)
    · cases e
theorem Prs.dicAt : ∀ {ks vs : List IV} {kvs : List (Key × V)}, Prs G lv φ H ks vs kvs → ∃ ks' vs' kk, kOfs ks' = some kk ∧ ks'.length = vs'.length ∧ kvs = kk.zip vs' ∧ RVs G lv φ H ks ks' ∧ RVs G lv φ H vs vs'
  | _, _, _, .nil => ⟨[], [], [], rfl, rfl, rfl, by simp only [RVs], by simp only [RVs]⟩
  | _, _, _, .cons (k := k) (v := v) e r1 r2 t => by
    obtain ⟨ks', vs', kk, e1, e2, e3, e4, e5⟩ := t.dicAt
    refine ⟨kV k :: ks', v :: vs', k :: kk, ?_, by simp [e2], by rw [e3]; rfl, ?_, ?_⟩
    · simp only [kOfs, kO_kV, e1]
    · simp only [RVs]
      exact ⟨_, _, rfl, r1, e4⟩
    · simp only [RVs]
      exact ⟨_, _, rfl, r2, e5⟩
theorem Prs.get {k : Key} : ∀ {ks vs : List IV} {kvs : List (Key × V)}, Prs G lv φ H ks vs kvs → (∀ z, dgetI k ks vs = some z → ∃ v, valV kvs k = some v ∧ RV G lv φ H z v) ∧ (dgetI k ks vs = none → valV kvs k = none)
  | _, _, _, .nil => ⟨fun z e => (by simp only [dgetI] at e; cases e), fun _ => rfl⟩
  | _, _, _, .cons (k := k') (v := v) e r1 r2 t => by
    obtain ⟨i1, i2⟩ := t.get (k := k)
    by_cases h : k' = k
    · subst h
      refine ⟨fun z q => ?_, fun q => ?_⟩
      · simp only [dgetI, if_pos e] at q
        cases q
        exact ⟨v, valV_pos rfl, r2⟩
      · simp only [dgetI, if_pos e] at q
        cases q
    · have ne : ¬ (some k' = some k) := fun z => h (Option.some.inj z)
      refine ⟨fun z q => ?_, fun q => ?_⟩
      · simp only [dgetI, e, if_neg ne] at q
        rw [valV_neg (by exact h)]
        exact i1 z q
      · simp only [dgetI, e, if_neg ne] at q
        rw [valV_neg (by exact h)]
        exact i2 q
theorem Prs.has {k : Key} : ∀ {ks vs : List IV} {kvs : List (Key × V)}, Prs G lv φ H ks vs kvs → dhasI k ks = kvs.any fun kv => decide (kv.1 = k)
  | _, _, _, .nil => rfl
  | _, _, _, .cons (k := k') e _ _ t => by
    unfold dhasI
    rw [List.any_cons, List.any_cons, e]
    have := t.has (k := k)
    unfold dhasI at this
    rw [this]
    have q : decide ((some k' : Option Key) = some k) = decide (k' = k) := by
      by_cases h : k' = k
      · rw [decide_eq_true h, decide_eq_true (by rw [h])]
      · rw [decide_eq_false h, decide_eq_false fun z => h (Option.some.inj z)]
    rw [q]
theorem Prs.app {x z : IV} {k : Key} {u : V} (ex : kI x = some k) (rx : RV G lv φ H x (kV k)) (rz : RV G lv φ H z u) : ∀ {ks vs : List IV} {kvs : List (Key × V)}, Prs G lv φ H ks vs kvs → Prs G lv φ H (ks ++ [x]) (vs ++ [z]) (kvs ++ [(k, u)])
  | _, _, _, .nil => .cons ex rx rz .nil
  | _, _, _, .cons e r1 r2 t => .cons e r1 r2 (t.app ex rx rz)
theorem Prs.map {z : IV} {k : Key} {u : V} (rz : RV G lv φ H z u) : ∀ {ks vs : List IV} {kvs : List (Key × V)}, Prs G lv φ H ks vs kvs → Prs G lv φ H ks (dmapI k z ks vs) (kvs.map fun kv => if kv.1 = k then (kv.1, u) else kv)
  | _, _, _, .nil => .nil
  | _, _, _, .cons (k := k') (v := v) e r1 r2 t => by
    rw [List.map_cons]
    unfold dmapI
    by_cases h : k' = k
    · subst h
      rw [if_pos e, if_pos rfl]
      exact .cons e r1 rz (t.map rz)
    · have ne : ¬ (some k' = some k) := fun z => h (Option.some.inj z)
      rw [e, if_neg ne, if_neg (show ¬ (k', v).1 = k from h)]
      exact .cons e r1 r2 (t.map rz)
theorem Prs.put {x z : IV} {k : Key} {u : V} (ex : kI x = some k) (rx : RV G lv φ H x (kV k)) (rz : RV G lv φ H z u) {ks vs : List IV} {kvs : List (Key × V)} (t : Prs G lv φ H ks vs kvs) : Prs G lv φ H (dputI x k z ks vs).1 (dputI x k z ks vs).2 (putK kvs k u) := by
  unfold dputI putK
  rw [← t.has]
  by_cases h : dhasI k ks = true
  · rw [if_pos h, if_pos h]
    exact t.map rz
  · rw [if_neg h, if_neg h]
    exact t.app ex rx rz
theorem Prs.len : ∀ {ks vs : List IV} {kvs : List (Key × V)}, Prs G lv φ H ks vs kvs → kvs.length = ks.length
  | _, _, _, .nil => rfl
  | _, _, _, .cons _ _ _ t => by rw [List.length_cons, List.length_cons, t.len]
theorem Prs.keys : ∀ {ks vs : List IV} {kvs : List (Key × V)}, Prs G lv φ H ks vs kvs → kIs ks = some (kvs.map (·.1))
  | _, _, _, .nil => rfl
  | _, _, _, .cons e _ _ t => by simp only [kIs, e, t.keys]; rfl
theorem Prs.mono {lv' : Addr → Prop} {φ' : List Addr} {H' : Hp} (x : Ext lv φ H lv' φ' H') (ok : ∀ a, lv a → Mut (H a)) : ∀ {ks vs : List IV} {kvs : List (Key × V)}, Prs G lv φ H ks vs kvs → Prs G lv' φ' H' ks vs kvs
  | _, _, _, .nil => .nil
  | _, _, _, .cons e r1 r2 t => .cons e (RV.mono x ok _ r1) (RV.mono x ok _ r2) (t.mono x ok)
end
/-- of what is read -/
theorem dic_rd {G : Gx} {lv : Addr → Prop} {φ : List Addr} {H : Hp} {ks vs : List IV} {v : V} (w : RW G lv φ H (.dic ks vs) v) : ∃ p kvs, v = .ref p ∧ H p = some (.dK kvs) ∧ Prs G lv φ H ks vs kvs := by
  obtain ⟨p, ks', vs', rfl, ⟨kk, e1, e2, e3⟩, r1, r2⟩ := w
  exact ⟨p, _, rfl, e3, prs_of e1 e2 r1 r2⟩
/-! ### readings -/
def mDix (fo fk : Mv) : Mv := fun env h => (fo env h).bind fun x h1 => (fk env h1).bind fun k h2 => match view h2 x, kI k with
  | .dic ks vs, some kk => .ofO (dgetI kk ks vs) h2
  | _, _ => .bad
def mDgt (fo fk fz : Mv) : Mv := fun env h => (fo env h).bind fun x h1 => match view h1 x with
  | .dic _ _ => (fk env h1).bind fun k h2 => (fz env h2).bind fun z h3 => match view h3 x, kI k with
    | .dic ks vs, some kk => .ok ((dgetI kk ks vs).getD z) h3
    | _, _ => .bad
  | _ => .bad
def mDsd (fo fk fz : Mv) : Mv := fun env h => (fo env h).bind fun x h1 => match view h1 x with
  | .dic _ _ => (fk env h1).bind fun k h2 => (fz env h2).bind fun z h3 => match x, kI k with
    | .ref n, some kk => match h3[n]? with
      | some (some (.dic ks vs)) => if ks.length < sizeLine then match dgetI kk ks vs with
          | some y => .ok y h3
          | none => .ok z (h3.set n (some (.dic (dputI k kk z ks vs).1 (dputI k kk z ks vs).2)))
        else .bad
      | _ => .bad
    | _, _ => .bad
  | _ => .bad
def mDpt (fo fk fz : Mv) : Ms := fun env h => (fz env h).bind fun z h1 => (fo env h1).bind fun x h2 => (fk env h2).bind fun k h3 => match x, kI k with
  | .ref n, some kk => match h3[n]? with
    | some (some (.dic ks vs)) => if ks.length < sizeLine then .ok (.nx, env) (h3.set n (some (.dic (dputI k kk z ks vs).1 (dputI k kk z ks vs).2))) else .bad
    | _ => .bad
  | _, _ => .bad
def mDnew : Mv := fun _ h => .ok (.ref h.length) (h ++ [some (.dic [] [])])
theorem Prs.ro {G : Gx} {lv : Addr → Prop} {φ : List Addr} {H : Hp} {ks vs : List IV} {kvs : List (Key × V)} {p : Addr} (t : Prs G lv φ H ks vs kvs) (e : H p = some (.dK kvs)) : RO G lv φ H p (.dic ks vs) := by
  obtain ⟨ks', vs', kk, e1, e2, e3, e4, e5⟩ := t.dicAt
  exact ⟨ks', vs', ⟨kk, e1, e2, by rw [e, e3]⟩, e4, e5⟩
theorem ro_prs {G : Gx} {lv : Addr → Prop} {φ : List Addr} {H : Hp} {ks vs : List IV} {p : Addr} (r : RO G lv φ H p (.dic ks vs)) : ∃ kvs, H p = some (.dK kvs) ∧ Prs G lv φ H ks vs kvs := by
  obtain ⟨ks', vs', ⟨kk, e1, e2, e3⟩, r1, r2⟩ := r
  exact ⟨_, e3, prs_of e1 e2 r1 r2⟩
section
variable {X : Cx} {G : Gx} {o i e value : Expr} {fo fk fz : Mv} {pos apos cpos pos' : Pos}
theorem s_dix (hu : X.A.units + 1 < cLine) (ho : PE X o (rE G fo)) (hi : PE X i (rE G fk)) (hs : NoSl i) : PE X (.Subscript o i pos) (rE G (mDix fo fk)) := by
  refine PEimp (pe_dget hu ho hi hs) fun σ H Q ⟨O, h, φ, env, R, E, P⟩ => ?_
  refine ⟨O, h, φ, env, R, E, (P.bind (rel := relV G)).mono fun v H1 ⟨x, h1, φ1, _, g1, r1, P1⟩ => ?_⟩
  refine ⟨O, h1, φ1, env, g1.rep, E.go R g1, (P1.bind (rel := relV G)).mono fun u H2 ⟨k, h2, φ2, _, g2, r2, P2⟩ => ?_⟩
  have w := RW.view g2.rep (relV.go g1.rep g2 r1)
  cases q : view h2 x with
  | dic ks vs =>
    rw [q] at w
    obtain ⟨p, kvs, rfl, e1, t⟩ := dic_rd w
    cases qk : kI k with
    | none =>
      simp only [q, qk] at P2
      exact P2.elim
    | some kk =>
      simp only [q, qk] at P2
      have eu := kI_of r2 qk
      subst eu
      cases qd : dgetI kk ks vs with
      | none =>
        rw [qd] at P2
        exact P2.elim
      | some z =>
        rw [qd] at P2
        obtain ⟨v', e2, r3⟩ := t.get.1 z qd
        exact ⟨p, v', rfl, .inl ⟨kvs, kk, .inl e1, rfl, e2.symm⟩, P2 φ2 H2 v' (Go.refl g2.rep) r3⟩
  | _ =>
    simp only [q] at P2
    exact P2.elim
theorem s_dgt {f : Expr} (hu : X.A.units + 1 < cLine) (ho : PE X o (rE G fo)) (he : PE X e (rE G fk)) (hf : PE X f (rE G fz)) (m : M2 X o "get" apos e f cpos) : PE X (.Call (.Attribute o "get" apos) [e, f] [] cpos) (rE G (mDgt fo fk fz)) := by
  refine PEimp (pe_dget2 hu ho he hf m) fun σ H Q ⟨O, h, φ, env, R, E, P⟩ => ?_
  refine ⟨O, h, φ, env, R, E, (P.bind (rel := relV G)).mono fun v H1 ⟨x, h1, φ1, _, g1, r1, P1⟩ => ?_⟩
  have w0 := RW.view g1.rep r1
  cases q0 : view h1 x with
  | dic ks0 vs0 =>
    rw [q0] at w0
    obtain ⟨p0, kvs0, rfl, e0, t0⟩ := dic_rd w0
    simp only [q0] at P1
    refine ⟨p0, rfl, .inl ⟨kvs0, .inl e0⟩, O, h1, φ1, env, g1.rep, E.go R g1, (Post.bind (rel := relV G) P1).mono fun u H2 ⟨k, h2, φ2, _, g2, r2, P2⟩ => ?_⟩
    refine ⟨O, h2, φ2, env, g2.rep, (E.go R g1).go g1.rep g2, (P2.bind (rel := relV G)).mono fun u3 H3 ⟨z, h3, φ3, _, g3, r3, P3⟩ => ?_⟩
    have w := RW.view g3.rep (relV.go g2.rep g3 (relV.go g1.rep g2 r1))
    cases q : view h3 x with
    | dic ks vs =>
      rw [q] at w
      obtain ⟨p, kvs, ep, e1, t⟩ := dic_rd w
      cases ep
      cases qk : kI k with
      | none =>
        simp only [q, qk] at P3
        exact P3.elim
      | some kk =>
        simp only [q, qk] at P3
        have eu := kI_of r2 qk
        subst eu
        refine ⟨valV kvs kk, .inl ⟨kvs, kk, .inl e1, rfl, rfl⟩, P3 φ3 H3 _ (Go.refl g3.rep) ?_⟩
        cases qd : dgetI kk ks vs with
        | none =>
          rw [t.get.2 qd]
          exact r3
        | some z' =>
          obtain ⟨v', e2, r4⟩ := t.get.1 z' qd
          rw [e2]
          exact r4
    | _ =>
      simp only [q] at P3
      exact P3.elim
  | _ =>
    simp only [q0] at P1
    exact P1.elim
theorem dwrite {O : Addr → Prop} {h : IH} {φ : List Addr} {H : Hp} {n : Nat} {a : Addr} {ks vs : List IV} {kvs : List (Key × V)} {k z : IV} {kk : Key} {u : V} (R : Rep G O h φ H) (hn : h[n]? = some (some (.dic ks vs))) (ha : φ[n]? = some a) (t : Prs G (Lv O h φ) φ H ks vs kvs) (qk : kI k = some kk) (rk : RV G (Lv O h φ) φ H k (kV kk)) (rz : RV G (Lv O h φ) φ H z u) :
    Go G O h φ H (h.set n (some (.dic (dputI k kk z ks vs).1 (dputI k kk z ks vs).2))) φ (upd H a (.dK (putK kvs kk u))) := by
  have xw := ext_write (ho := .dK (putK kvs kk u)) (H := H) (lv_at hn ha (O := O))
  exact R.write hn ha trivial (((t.put qk rk rz).mono xw R.ok).ro upd_same)
theorem s_dsd {f : Expr} (ho : PE X o (rE G fo)) (he : PE X e (rE G fk)) (hf : PE X f (rE G fz)) (m : M2 X o "setdefault" apos e f cpos) : PE X (.Call (.Attribute o "setdefault" apos) [e, f] [] cpos) (rE G (mDsd fo fk fz)) := by
  refine PEimp (pe_dsetd ho he hf m) fun σ H Q ⟨O, h, φ, env, R, E, P⟩ => ?_
  refine ⟨O, h, φ, env, R, E, (P.bind (rel := relV G)).mono fun v H1 ⟨x, h1, φ1, _, g1, r1, P1⟩ => ?_⟩
  have w0 := RW.view g1.rep r1
  cases q0 : view h1 x with
  | dic ks0 vs0 =>
    rw [q0] at w0
    obtain ⟨p0, kvs0, rfl, e0, t0⟩ := dic_rd w0
    simp only [q0] at P1
    refine ⟨p0, rfl, .inl ⟨kvs0, .inl e0⟩, O, h1, φ1, env, g1.rep, E.go R g1, (Post.bind (rel := relV G) P1).mono fun u H2 ⟨k, h2, φ2, _, g2, r2, P2⟩ => ?_⟩
    refine ⟨O, h2, φ2, env, g2.rep, (E.go R g1).go g1.rep g2, (P2.bind (rel := relV G)).mono fun u3 H3 ⟨z, h3, φ3, _, g3, r3, P3⟩ => ?_⟩
    have r1' := relV.go g2.rep g3 (relV.go g1.rep g2 r1)
    have r2' := relV.go g2.rep g3 r2
    cases x with
    | ref n =>
      simp only [relV, RV] at r1'
      obtain ⟨a, ea, ev⟩ := r1'
      cases ev
      cases qk : kI k with
      | none =>
        simp only [qk] at P3
        exact P3.elim
      | some kk =>
        have eu := kI_of r2 qk
        subst eu
        cases qh : h3[n]? with
        | none =>
          simp only [qk, qh] at P3
          exact P3.elim
        | some oo =>
          cases oo with
          | none =>
            simp only [qk, qh] at P3
            exact P3.elim
          | some ob =>
            cases ob with
            | dic ks vs =>
              simp only [qk, qh] at P3
              obtain ⟨kvs, e1, t⟩ := ro_prs (g3.rep.obj n _ p0 qh ea)
              by_cases hz : ks.length < sizeLine
              · rw [if_pos hz] at P3
                refine ⟨kvs, kk, e1, rfl, by rw [t.len]; exact hz, fun v ev => ?_, fun en => ?_⟩
                · cases qd : dgetI kk ks vs with
                  | none =>
                    rw [t.get.2 qd] at ev
                    cases ev
                  | some z' =>
                    obtain ⟨v', e2, r4⟩ := t.get.1 z' qd
                    rw [e2] at ev
                    cases ev
                    simp only [qd] at P3
                    exact P3 φ3 H3 _ (Go.refl g3.rep) r4
                · cases qd : dgetI kk ks vs with
                  | some z' =>
                    obtain ⟨v', e2, r4⟩ := t.get.1 z' qd
                    rw [e2] at en
                    cases en
                  | none =>
                    simp only [qd] at P3
                    have g4 := dwrite g3.rep qh ea t qk r2' r3
                    exact P3 φ3 _ _ g4 (relV.go g3.rep g4 r3)
              · rw [if_neg hz] at P3
                exact P3.elim
            | _ =>
              simp only [qk, qh] at P3
              exact P3.elim
    | _ => exact P3.elim
  | _ =>
    simp only [q0] at P1
    exact P1.elim
theorem s_dpt (hu : X.A.units + 1 < cLine) (ho : PE X o (rE G fo)) (hi : PE X i (rE G fk)) (hv : PE X value (rE G fz)) (hs : swapsWith value (some (.Subscript o i pos')) pos.line X.env = pure false := by rfl) : PS X (.Assign [.Subscript o i pos'] value pos) (rS G (mDpt fo fk fz)) := by
  refine PSimp (ps_dput hu ho hi hv hs) fun D σ H ⟨O, h, φ, env, R, E, P⟩ => ?_
  refine ⟨O, h, φ, env, R, E, (P.bind (rel := relV G)).mono fun v H1 ⟨z, h1, φ1, _, g1, r1, P1⟩ => ?_⟩
  refine ⟨O, h1, φ1, env, g1.rep, E.go R g1, (P1.bind (rel := relV G)).mono fun u H2 ⟨x, h2, φ2, _, g2, r2, P2⟩ => ?_⟩
  refine ⟨O, h2, φ2, env, g2.rep, (E.go R g1).go g1.rep g2, (P2.bind (rel := relV G)).mono fun u3 H3 ⟨k, h3, φ3, _, g3, r3, P3⟩ => ?_⟩
  have r1' := relV.go g2.rep g3 (relV.go g1.rep g2 r1)
  have r2' := relV.go g2.rep g3 r2
  cases x with
  | ref n =>
    simp only [relV, RV] at r2'
    obtain ⟨a, ea, ev⟩ := r2'
    subst ev
    cases qk : kI k with
    | none =>
      simp only [qk] at P3
      exact P3.elim
    | some kk =>
      have eu := kI_of r3 qk
      subst eu
      cases qh : h3[n]? with
      | none =>
        simp only [qk, qh] at P3
        exact P3.elim
      | some oo =>
        cases oo with
        | none =>
          simp only [qk, qh] at P3
          exact P3.elim
        | some ob =>
          cases ob with
          | dic ks vs =>
            simp only [qk, qh] at P3
            obtain ⟨kvs, e1, t⟩ := ro_prs (g3.rep.obj n _ a qh ea)
            by_cases hz : ks.length < sizeLine
            · rw [if_pos hz] at P3
              have g4 := dwrite g3.rep qh ea t qk r3 r1'
              exact ⟨a, _, rfl, .inl ⟨kvs, kk, e1, rfl, by rw [t.len]; exact hz, rfl⟩, P3 φ3 _ (.nx, σ) g4 ((((E.go R g1).go g1.rep g2).go g2.rep g3).go g3.rep g4)⟩
            · rw [if_neg hz] at P3
              exact P3.elim
          | _ =>
            simp only [qk, qh] at P3
            exact P3.elim
  | _ => exact P3.elim
theorem s_dnew : PE X (.Dict [] [] pos) (rE G mDnew) := by
  refine PEimp pe_dnewK fun σ H Q ⟨O, h, φ, env, R, E, P⟩ => fun p n => ?_
  have al := R.alloc (o := .dic [] []) (ho := .dK []) n trivial fun lv φ' xx => Prs.nil.ro upd_same
  refine P (φ ++ [p]) _ _ al ?_
  simp only [relV, RV]
  refine ⟨p, ?_, rfl⟩
  rw [← R.len, List.getElem?_append_right (Nat.le_refl _)]
  simp
end
/-! ### {k: v for ..} -/
def dcLoop (g : Mg) (c : Mb) (fk fv : Mv) (env : Env) : List IV → List IV → List IV → IH → Res (List IV × List IV)
  | [], ks, vs, h => .ok (ks, vs) h
  | x :: xs, ks, vs, h => match g x env with
    | none => .bad
    | some env1 => (c env1 h).bind fun b h1 => if b = true then (fk env1 h1).bind fun y h2 => (fv env1 h2).bind fun z h3 => match kI y with
        | some k => if ks.length < sizeLine then dcLoop g c fk fv env xs (dputI y k z ks vs).1 (dputI y k z ks vs).2 h3 else .bad
        | none => .bad
      else dcLoop g c fk fv env xs ks vs h1
def mDc (src : Mi) (g : Mg) (own : List Nat) (c : Mb) (fk fv : Mv) : Mv := fun env h => (src env h).bind fun xs h1 =>
  (dcLoop g c fk fv (wipeI env own) xs [] [] h1).bind fun r h2 => .ok (.dic r.1 r.2) h2
theorem dc_it {J : It} {n : Nat} {Gd : Hp → Prop} {Y : Nat → Hp → V → Hp → Prop} (w : Walk J n Gd Y) {g : TG} {tt : TT} {tk tv : TE} {vs : List Nat} {σ : L2.St} {H1 : Hp} {D : Addr} {Qd : Hp → Prop} (Pv : Nat → Hp → Prop) (h0 : Pv 0 (upd H1 D (.dK []))) (hG : ∀ i H, i ≤ n → Pv i H → Gd H)
    (hs : ∀ i x H H', i < n → Pv i H → Y i H x H' → g x (wipe σ vs) H' fun σ2 H2 => wipe σ2 vs = wipe σ vs ∧ tt σ2 H2 fun b H3 =>
      if b = true then tk σ2 H3 fun y H4 => tv σ2 H4 fun z H5 => ∃ kvs k, y = kV k ∧ H5 D = some (.dK kvs) ∧ kvs.length < sizeLine ∧ Pv (i + 1) (upd H5 D (.dK (putK kvs k z))) else Pv (i + 1) H3) (hd : ∀ H, Pv n H → Qd H) :
    ∃ W : Nat → Nat → Hp → Prop, (∃ m, W 0 m (upd H1 D (.dK []))) ∧ ∀ i m H, W i m H →
      (J.stop i H ∧ Qd H) ∨ (J.go i H ∧ ∃ Nx : Hp → Prop, (∀ H', Nx H' → ∃ m', m' < m ∧ W (i + 1) m' H') ∧ ∀ x H', J.yld i H x H' → g x (wipe σ vs) H' fun σ2 H2 => wipe σ2 vs = wipe σ vs ∧ tt σ2 H2 fun b H3 =>
        if b = true then tk σ2 H3 fun y H4 => tv σ2 H4 fun z H5 => ∃ kvs k, y = kV k ∧ H5 D = some (.dK kvs) ∧ kvs.length < sizeLine ∧ Nx (upd H5 D (.dK (putK kvs k z))) else Nx H3) := by
  refine ⟨fun i m H => m = n - i ∧ i ≤ n ∧ Pv i H, ⟨n, by simp, Nat.zero_le _, h0⟩, ?_⟩
  rintro i m H ⟨rfl, hi, p⟩
  have q := hG i H hi p
  by_cases hlt : i < n
  · refine .inr ⟨w.goes i H hlt q, Pv (i + 1), fun H' p' => ⟨n - (i + 1), by omega, rfl, hlt, p'⟩, fun x H' y => hs i x H H' hlt p (w.yields i H x H' hlt q y)⟩
  · have e : i = n := by omega
    subst e
    exact .inl ⟨w.stops H q, hd H p⟩
theorem dc_run {G : Gx} {O : Addr → Prop} {h1 h2 : IH} {φ1 : List Addr} {H1 : Hp} {J : It} {xs : List IV} {rs : List IV × List IV} {g : Mg} {c : Mb} {fk fv : Mv} {env : Env} {σ : L2.St} {ws own : List Nat} {D : Addr} {Qd : Hp → Prop}
    (R : Rep G O h1 φ1 H1) (E : EnvR G (Lv O h1 φ1) φ1 H1 env σ) (it : IterOk G (Lv O h1 φ1) φ1 H1 xs J) (hw : ∀ i ∈ ws, i ∈ own) (nD : H1 D = none)
    (run : dcLoop g c fk fv (wipeI env own) xs [] [] h1 = .ok rs h2) (fin : ∀ φ2 H2, Go G O h1 φ1 H1 h2 φ2 H2 → RV G (Lv O h2 φ2) φ2 H2 (.dic rs.1 rs.2) (.ref D) → Qd H2) :
    ∃ W : Nat → Nat → Hp → Prop, (∃ m, W 0 m (upd H1 D (.dK []))) ∧ ∀ i m H, W i m H →
      (J.stop i H ∧ Qd H) ∨ (J.go i H ∧ ∃ Nx : Hp → Prop, (∀ H', Nx H' → ∃ m', m' < m ∧ W (i + 1) m' H') ∧ ∀ x H', J.yld i H x H' → rG G ws g x (wipe σ own) H' fun σ2 H2 => wipe σ2 own = wipe σ own ∧ rT G c σ2 H2 fun b H3 =>
        if b = true then rE G fk σ2 H3 fun y H4 => rE G fv σ2 H4 fun z H5 => ∃ kvs k, y = kV k ∧ H5 D = some (.dK kvs) ∧ kvs.length < sizeLine ∧ Nx (upd H5 D (.dK (putK kvs k z))) else Nx H3) := by
  have nO : ¬ O D := fun o => by
    have m := R.out D o
    rw [nD] at m
    exact m
  have sub : ∀ a, O a → Oth O D a := fun a o => .inl o
  have dD : Oth O D D := .inr rfl
  have w0 := R.outer (ho := .dK []) nD trivial
  have wk : Walk J xs.length (fun H => (∀ i, i < xs.length → J.go i H) ∧ J.stop xs.length H) J.yld := ⟨fun i H hi q => q.1 i hi, fun H q => q.2, fun i H x H' _ _ y => y⟩
  refine dc_it wk (fun i H => ∃ h φ kvs ks vs, GoW G O (Oth O D) h1 φ1 H1 h φ H ∧ H D = some (.dK kvs) ∧ Prs G (Lv (Oth O D) h φ) φ H ks vs kvs ∧ dcLoop g c fk fv (wipeI env own) (xs.drop i) ks vs h = .ok rs h2)
    ⟨h1, φ1, [], [], [], w0, upd_same, .nil, run⟩ ?_ ?_ ?_
  · rintro i H _ ⟨h, φ, kvs, ks, vs, w, _⟩
    obtain ⟨a, b, _⟩ := it _ _ _ w.ext w.rep.ok
    exact ⟨a, b⟩
  · rintro i x H H' hi ⟨h, φ, kvs, ks, vs, w, eD, rA, lp⟩ yl
    obtain ⟨_, _, iy⟩ := it _ _ _ w.ext w.rep.ok
    obtain ⟨sm, y, ex, ry⟩ := iy i x H' hi yl
    have g0 : Go G (Oth O D) h φ H h φ H' := Go.same w.rep sm
    have w' := w.go sub g0
    have ed : xs.drop i = y :: xs.drop (i + 1) := by
      rw [List.drop_eq_getElem_cons hi]
      rw [List.getElem?_eq_getElem hi] at ex
      rw [Option.some.inj ex]
    rw [ed] at lp
    simp only [dcLoop] at lp
    cases q : g y (wipeI env own) with
    | none =>
      rw [q] at lp
      cases lp
    | some env1 =>
      rw [q] at lp
      obtain ⟨b, h3, e1, lp⟩ := bind_ok lp
      have E' : EnvR G (Lv (Oth O D) h φ) φ H' (wipeI env own) (wipe σ own) := EnvR.wipe ⟨E.1, fun j z zz => let ⟨v, a1, a2⟩ := E.2 j z zz; ⟨v, a1, RV.mono w'.ext R.ok z a2⟩⟩ own
      refine ⟨_, φ, wipeI env own, y, env1, E', ry, q, fun σ2 E2 o2 => ⟨((o2.mono hw).wipe).trans (onlyAt_wipe.wipe), Oth O D, h, φ, env1, w'.rep, E2, post_ok e1 fun φ3 H3 v g3 rb => ?_⟩⟩
      have rb' : v = b := rb
      subst rb'
      have w3 := w'.go sub g3
      have eD3 : H3 D = some (.dK kvs) := by rw [g3.outk D dD, g0.outk D dD]; exact eD
      have rA3 := rA.mono (g0.ext.trans g3.ext) w.rep.ok
      cases v with
      | false =>
        simp only [Bool.false_eq_true, if_false] at lp
        rw [if_neg (by decide)]
        exact ⟨h3, φ3, kvs, ks, vs, w3, eD3, rA3, lp⟩
      | true =>
        simp only [if_true] at lp
        rw [if_pos rfl]
        obtain ⟨yk, h4, e2, lp⟩ := bind_ok lp
        obtain ⟨z, h5, e3, lp⟩ := bind_ok lp
        refine ⟨Oth O D, h3, φ3, env1, w3.rep, E2.go w'.rep g3, post_ok e2 fun φ4 H4 u4 g4 r4 => ⟨Oth O D, h4, φ4, env1, g4.rep, (E2.go w'.rep g3).go w3.rep g4, post_ok e3 fun φ5 H5 u5 g5 r5 => ?_⟩⟩
        have w4 := w3.go sub g4
        have w5 := w4.go sub g5
        have eD5 : H5 D = some (.dK kvs) := by rw [g5.outk D dD, g4.outk D dD]; exact eD3
        have rA5 := rA3.mono (g4.ext.trans g5.ext) w3.rep.ok
        have r4' := relV.go w4.rep g5 r4
        cases qk : kI yk with
        | none =>
          simp only [qk] at lp
          cases lp
        | some k =>
          simp only [qk] at lp
          by_cases hz : ks.length < sizeLine
          · rw [if_pos hz] at lp
            have eu := kI_of r4 qk
            subst eu
            refine ⟨kvs, k, rfl, eD5, by rw [rA5.len]; exact hz, h5, φ5, _, _, _, w5.set dD nO trivial sub, upd_same, ?_, lp⟩
            obtain ⟨_, x5, _⟩ := w5.rep.outset (ho := .dK (putK kvs k u5)) dD nO trivial sub
            exact (rA5.put qk r4' r5).mono x5 w5.rep.ok
          · rw [if_neg hz] at lp
            cases lp
  · rintro H ⟨h, φ, kvs, ks, vs, w, eD, rA, lp⟩
    rw [List.drop_length] at lp
    simp only [dcLoop] at lp
    cases lp
    have gd := w.drop sub
    obtain ⟨_, xd⟩ := w.rep.drop sub
    refine fin φ H gd ?_
    obtain ⟨ks', vs', kk, e1, e2, e3, e4, e5⟩ := (rA.mono xd w.rep.ok).dicAt
    simp only [RV]
    refine ⟨D, ks', vs', rfl, fun l => ?_, ⟨kk, e1, e2, by rw [eD, e3]⟩, e4, e5⟩
    rcases l with l | ⟨i, u, e1, e2⟩
    · exact nO l
    · exact w.rep.dis i D u e1 e2 dD
section
variable {X : Cx} {G : Gx} {kx vx tg iter : Expr} {ifs : List Expr} {scope : Scope} {own : List (Str × Nat)} {pos spos : Pos} {src : Mi} {g : Mg} {ws : List Nat} {c : Mb} {fk fv : Mv}
theorem dc_rd {σ : L2.St} {H : Hp} {Q : VK} (hw : ∀ i ∈ ws, i ∈ own.map (·.2)) (q : rE G (mDc src g (own.map (·.2)) c fk fv) σ H Q) : tDc (rI G src) (rG G ws g) (rT G c) (rE G fk) (rE G fv) (own.map (·.2)) σ H Q := by
  obtain ⟨O, h, φ, env, R, E, P⟩ := q
  refine ⟨O, h, φ, env, R, E, (P.bind (rel := relI G)).mono fun J H1 ⟨xs, h1, φ1, _, g1, it, P1⟩ D nD => ?_⟩
  cases q : dcLoop g c fk fv (wipeI env (own.map (·.2))) xs [] [] h1 with
  | bad =>
    simp only [q] at P1
    exact P1.elim
  | ok rs h2 =>
    simp only [q] at P1
    exact dc_run g1.rep (E.go R g1) it hw nD q fun φ2 H2 g2 r2 => P1 φ2 H2 _ g2 r2
theorem s_dc (hc : X.calm = true) (hN : X.N.Nodup) (hi : PI X tg iter (rI G src)) (ok : BlkOk X.N X.env.scope scope own) (hw : ∀ i ∈ ws, i ∈ own.map (·.2))
    (hg : ∀ (s : Shared) (H : Hp) (C : Addr) (cl : List (Str × Addr)) (fp : List Addr), PG (X.blk s H scope (compEnvC scope cl C X.env) fp) tg (rG G ws g)) (ht : ∀ (s : Shared) (H : Hp) (C : Addr) (cl : List (Str × Addr)) (fp : List Addr), PTs (X.blk s H scope (compEnvC scope cl C X.env) fp) ifs (rT G c))
    (hk : ∀ (s : Shared) (H : Hp) (C : Addr) (cl : List (Str × Addr)) (fp : List Addr), PE (X.blk s H scope (compEnvC scope cl C X.env) fp) kx (rE G fk))
    (he : ∀ (s : Shared) (H : Hp) (C : Addr) (cl : List (Str × Addr)) (fp : List Addr), PE (X.blk s H scope (compEnvC scope cl C X.env) fp) vx (rE G fv)) (hs : ∀ x, foldedSetIterable iter X.env x = pure x := by intro _; rfl) :
    PE X (.DictComp kx vx [⟨tg, iter, ifs, 0⟩] scope pos) (rE G (mDc src g (own.map (·.2)) c fk fv)) :=
  PEimp (pe_dc hc hN hi ok hg ht hk he hs) fun σ H Q q => dc_rd hw q
end
end Iv

/-! IvQ: all comparisons; methods of lists and tuples; isinstance; exact tuples. -/
namespace Iv
open PySem PySem.Spec PyProof.Rows L2

/-! ### in, not in -/
theorem Prs.any {G : Gx} {lv : Addr → Prop} {φ : List Addr} {H : Hp} {x : IV} {k : Key} (ex : kI x = some k) : ∀ {ks vs : List IV} {kvs : List (Key × V)}, Prs G lv φ H ks vs kvs → (ks.any fun y => eqF y x) = (valV kvs k).isSome
  | _, _, _, .nil => rfl
  | _, _, _, .cons (x := y) (k := k') e _ _ t => by
    rw [List.any_cons, t.any ex]
    by_cases h : k' = k
    · subst h
      rw [valV_pos rfl]
      have : eqF y x = true := by
        cases x <;> simp only [kI] at ex <;> cases ex <;> cases y <;> simp only [kI] at e <;> cases e <;> simp [eqF]
      rw [this]
      rfl
    · rw [valV_neg (by exact h)]
      have : eqF y x = false := by
        cases x <;> simp only [kI] at ex <;> cases ex <;> cases y <;> simp only [kI] at e <;> cases e <;> simp [eqF]
        all_goals (intro z; exact h (by rw [z]))
      rw [this, Bool.false_or]
section
variable {X : Cx} {G : Gx}
theorem isin_ok (hK : G.K = X.K) (hu : X.A.units + 65 < cLine) : OpR X (compareOp .In) (rC G .isin) := by
  intro pins s σ H x y v u Q I rx ry ⟨lv, φ, a, b, c, ha, hb, e, q⟩
  cases b with
  | lst xs =>
    obtain ⟨p, vs, rfl, hq, r⟩ := hb
    exact in_seq_ok hK hu I rx ry ha (.inl (SqL.of hq)) r e q
  | tup xs =>
    simp only [RW, RV] at hb
    obtain ⟨p, vs, rfl, hq, r⟩ := hb
    simp only [cmpI] at e
    by_cases f : (flatI a && xs.all flatI) = true
    · rw [if_pos f] at e
      exact in_seq_ok hK hu I rx ry ha (.inr ⟨hK ▸ hq, f⟩) r e q
    · rw [if_neg f] at e
      cases e
  | str z =>
    simp only [RW, RV] at hb
    cases a with
    | str z' =>
      simp only [RW, RV] at ha
      simp only [cmpI, Option.some.injEq] at e
      exact op_in_str pins s σ H x y v u Q I rx ry ⟨z', z, ha, hb, by rw [e]; exact q⟩
    | _ => simp only [cmpI] at e; cases e
  | dic ks vs =>
    obtain ⟨p, kvs, rfl, e1, t⟩ := dic_rd hb
    have hk : ∃ k, kI a = some k ∧ c = (ks.any fun y => eqF y a) ∧ x = kV k := by
      cases a with
      | int i =>
        simp only [RW, RV] at ha
        simp [cmpI] at e
        exact ⟨.inl i, rfl, e.symm, ha⟩
      | str i =>
        simp only [RW, RV] at ha
        simp [cmpI] at e
        exact ⟨.inr i, rfl, e.symm, ha⟩
      | _ => simp [cmpI] at e
    obtain ⟨k, ek, ec, rfl⟩ := hk
    cases ry
    refine d_in (by omega) I (.inl ⟨kvs, k, .inl e1, rfl, rfl⟩) rx fun s' I' => ⟨.bl _, H, I', rfl, ?_⟩
    rw [← t.any ek, ← ec]
    exact q
  | _ => simp only [cmpI] at e; cases e
theorem notin_ok (hK : G.K = X.K) (hu : X.A.units + 65 < cLine) : OpR X (compareOp .NotIn) (rC G .notin) := by
  intro pins s σ H x y v u Q I rx ry ⟨lv, φ, a, b, c, ha, hb, e, q⟩
  cases b with
  | lst xs =>
    obtain ⟨p, vs, rfl, hq, r⟩ := hb
    simp only [cmpI] at e
    by_cases f : (flatI a && xs.all flatI) = true
    · rw [if_pos f] at e
      exact notin_seq_ok I rx ry ha (.inl (SqL.of hq)) r f e q
    · rw [if_neg f] at e
      cases e
  | tup xs =>
    simp only [RW, RV] at hb
    obtain ⟨p, vs, rfl, hq, r⟩ := hb
    simp only [cmpI] at e
    by_cases f : (flatI a && xs.all flatI) = true
    · rw [if_pos f] at e
      exact notin_seq_ok I rx ry ha (.inr (hK ▸ hq)) r f e q
    · rw [if_neg f] at e
      cases e
  | str z =>
    simp only [RW, RV] at hb
    cases a with
    | str z' =>
      simp only [RW, RV] at ha
      simp only [cmpI, Option.some.injEq] at e
      exact op_notin_str pins s σ H x y v u Q I rx ry ⟨z', z, ha, hb, by rw [e]; exact q⟩
    | _ => simp only [cmpI] at e; cases e
  | dic ks vs =>
    obtain ⟨p, kvs, rfl, e1, t⟩ := dic_rd hb
    have hk : ∃ k, kI a = some k ∧ c = (!(ks.any fun y => eqF y a)) ∧ x = kV k := by
      cases a with
      | int i =>
        simp only [RW, RV] at ha
        simp only [cmpI, if_true, Option.some.injEq] at e
        exact ⟨.inl i, rfl, e.symm, ha⟩
      | str i =>
        simp only [RW, RV] at ha
        simp only [cmpI, if_true, Option.some.injEq] at e
        exact ⟨.inr i, rfl, e.symm, ha⟩
      | _ => simp [cmpI] at e
    obtain ⟨k, ek, ec, rfl⟩ := hk
    cases ry
    refine d_notIn (by omega) I (.inl ⟨kvs, k, .inl e1, rfl, rfl⟩) rx fun s' I' => ⟨.bl _, H, I', rfl, ?_⟩
    rw [← t.any ek, ← ec]
    exact q
  | _ => simp only [cmpI] at e; cases e
theorem cmp_ok (hK : G.K = X.K) (hu : X.A.units + 65 < cLine) : CmpOk G X := ⟨fun o => by
  cases o with
  | eq => exact eq_ok hK hu
  | ne => exact ne_ok hK hu
  | lt => exact lt_ok hK hu
  | le => exact le_ok
  | gt => exact gt_ok
  | ge => exact ge_ok
  | isin => exact isin_ok hK hu
  | notin => exact notin_ok hK hu
  | is => exact is_ok
  | isnot => exact isnot_ok⟩
end
/-! ### x == [] -/
def rEqLen (K : PySem.W.Frag) : R2 := fun x y H Q => ∃ a b xs ys, x = .ref a ∧ y = .ref b ∧ SqL K H a xs ∧ SqL K H b ys ∧ xs.length ≠ ys.length ∧ Q (.bl false) H
theorem op_eqLen {X : Cx} (hu : X.A.units < cLine) : OpR X (compareOp .Eq) (rEqLen X.K) := by
  intro pins s σ H x y v u Q I rx ry ⟨a, b, xs, ys, ex, ey, ha, hb, ne, q⟩
  subst ex ey
  cases rx
  cases ry
  obtain ⟨its, r1, ⟨⟨c1, d1, dt1, sl1⟩, n1, ho1, hc1, hd1, he1⟩, _⟩ := I.list ha
  obtain ⟨its2, r2, ⟨⟨c2, d2, dt2, sl2⟩, n2, ho2, hc2, hd2, he2⟩, _⟩ := I.list hb
  simp only at hc1 he1 hc2 he2
  subst hc1 he1 hc2 he2
  show wpAny (model X.prog X.w) X.A (richCompare .Eq (.ref a) (.ref b)) _ _ _
  have hs : (its.toArray.size != its2.toArray.size) = true := by
    simp only [List.size_toArray, bne_iff_ne]
    rw [← r1.length, ← r2.length]
    exact ne
  refine wpAny_richCompare_same_room (op := .Eq) ⟨_, ho1, rfl⟩ ⟨_, ho2, rfl⟩ PySem.F.slot_list_eq (call_meets PySem.F.slot_list_eq ⟨_, ho1, rfl⟩ PySem.F.entry_list_eq (PySem.F.args_list_eq_2 _ _) (SeqAt.list_eq_lengthsAt a b its.toArray its2.toArray n1 n2 d1 d2 sl1 sl2 hs) ⟨ho1, ho2, ?_⟩) hu
  exact ⟨(fun z => nomatch z), .bl false, H, I, rfl, q⟩
def eqNilI (x y : IV) : Option Bool := match x, y with
  | .lst [], .lst [] => some true
  | .lst (_ :: _), .lst [] => some false
  | _, _ => none
def mEqNil (fa fb : Mv) : Mb := fun env h => (fa env h).bind fun x h1 => (fb env h1).bind fun y h2 => .ofO (eqNilI (view h2 x) (view h2 y)) h2
section
variable {X : Cx} {G : Gx} {a b : Expr} {fa fb : Mv} {pos : Pos}
theorem t_eqNil (hK : G.K = X.K) (hu : X.A.units + 65 < cLine) (ha : PE X a (rE G fa)) (hb : PE X b (rE G fb)) (hm : behindInMarks .Eq b = false) : PT X (.Compare a [.Eq] [b] pos) (rT G (mEqNil fa fb)) := by
  have op : OpR X (compareOp .Eq) (fun x y H Q => rEqLen X.K x y H Q ∨ rEqD X.K x y H Q) := fun pins s σ H x y v u Q I rx ry h => h.elim (op_eqLen (by omega) pins s σ H x y v u Q I rx ry) (op_eqD (by omega) pins s σ H x y v u Q I rx ry)
  refine PTimp (pt_cmpR op ha hb hm) fun σ H Q ⟨O, h, φ, env, R, E, P⟩ => ?_
  refine ⟨O, h, φ, env, R, E, (P.bind (rel := relV G)).mono fun v H1 ⟨x, h1, φ1, _, g1, r1, P1⟩ => ?_⟩
  refine ⟨O, h1, φ1, env, g1.rep, E.go R g1, (P1.bind (rel := relV G)).mono fun u H2 ⟨y, h2, φ2, _, g2, r2, P2⟩ => ?_⟩
  have w1 := RW.view g2.rep (relV.go g1.rep g2 r1)
  have w2 := RW.view g2.rep r2
  generalize view h2 x = vx at w1 P2
  generalize view h2 y = vy at w2 P2
  unfold eqNilI at P2
  split at P2
  · obtain ⟨p, vs, rfl, hq, r⟩ := w1
    obtain ⟨p2, vs2, rfl, hq2, r'⟩ := w2
    simp only [RVs] at r r'
    subst r r'
    refine .inr ⟨.list [], .list [], .lst (SqL.of hq) .nil, .lst (SqL.of hq2) .nil, rfl, rfl, true, rfl, P2 φ2 H2 _ (Go.refl g2.rep) rfl⟩
  · obtain ⟨p, vs, rfl, hq, r⟩ := w1
    obtain ⟨p2, vs2, rfl, hq2, r'⟩ := w2
    have l1 := r.length
    have l2 := r'.length
    refine .inl ⟨p, p2, vs, vs2, rfl, rfl, SqL.of hq, SqL.of hq2, ?_, false, rfl, P2 φ2 H2 _ (Go.refl g2.rep) rfl⟩
    rw [l1, l2]
    simp
  · exact P2.elim
end
/-! ### o.append(x), o.extend(xs) -/
def lstAt (h : IH) (x : IV) : Option (Nat × List IV) := match x with
  | .ref n => match h[n]? with
    | some (some (.lst xs)) => some (n, xs)
    | _ => none
  | _ => none
theorem lstAt_ok {h : IH} {x : IV} {n : Nat} {xs : List IV} (e : lstAt h x = some (n, xs)) : x = .ref n ∧ h[n]? = some (some (.lst xs)) := by
  unfold lstAt at e
  split at e
  · split at e
    · rename_i q
      cases e
      exact ⟨rfl, q⟩
    · cases e
  · cases e
def mApp (fo fx : Mv) : Mv := fun env h => (fo env h).bind fun x h1 => match lstAt h1 x with
  | some _ => (fx env h1).bind fun y h2 => match lstAt h2 x with
    | some (n, xs) => if xs.length < sizeLine then .ok .non (h2.set n (some (.lst (xs ++ [y])))) else .bad
    | none => .bad
  | none => .bad
def mExt (fo fx : Mv) : Mv := fun env h => (fo env h).bind fun x h1 => match lstAt h1 x with
  | some _ => (fx env h1).bind fun y h2 => match lstAt h2 x, view h2 y with
    | some (n, xs), .lst zs => if xs.length + zs.length ≤ sizeLine then .ok .non (h2.set n (some (.lst (xs ++ zs)))) else .bad
    | _, _ => .bad
  | none => .bad
section
variable {G : Gx} {O : Addr → Prop} {h : IH} {φ : List Addr} {H : Hp}
theorem lstAt_rv (R : Rep G O h φ H) {x : IV} {v : V} {n : Nat} {xs : List IV} (r : RV G (Lv O h φ) φ H x v) (e : lstAt h x = some (n, xs)) : ∃ a vs, v = .ref a ∧ φ[n]? = some a ∧ h[n]? = some (some (.lst xs)) ∧ H a = some (.lst vs) ∧ RVs G (Lv O h φ) φ H xs vs := by
  obtain ⟨rfl, q⟩ := lstAt_ok e
  simp only [RV] at r
  obtain ⟨a, ea, rfl⟩ := r
  obtain ⟨vs, e1, e2⟩ := R.obj n _ a q ea
  exact ⟨a, vs, rfl, ea, q, e1, e2⟩
theorem lwrite (R : Rep G O h φ H) {n : Nat} {a : Addr} {xs ys : List IV} {us : List V} (hn : h[n]? = some (some (.lst xs))) (ha : φ[n]? = some a) (r : RVs G (Lv O h φ) φ H ys us) : Go G O h φ H (h.set n (some (.lst ys))) φ (upd H a (.lst us)) := by
  have xw := ext_write (ho := .lst us) (H := H) (lv_at hn ha (O := O))
  exact R.write hn ha trivial ⟨us, upd_same, RVs.mono xw R.ok _ r⟩
end
section
variable {X : Cx} {G : Gx} {o e : Expr} {fo fx : Mv} {apos cpos : Pos}
theorem s_app (ho : PE X o (rE G fo)) (hx : PE X e (rE G fx)) (hbase : attributeBase o "append" X.env (eval o X.env) = eval o X.env := by rfl)
    (hfew : ((backTo cpos (starEach [e] X.env)).all (fun x => !x.1) && (backToKw cpos (keywordEach [] X.env)).all (fun x => x.1.isSome)
      && decide (([e] : List Expr).length + ([] : List Keyword).length + (if ([] : List Keyword).isEmpty then 0 else 1) < 30)) = true := by rfl)
    (hline : (apos.endLine == cpos.line) = true := by rfl) (hs : starEach [e] X.env = (false, eval e X.env) :: starEach [] X.env := by rfl) (hplain : (backTo cpos (starEach [] X.env)).any (·.1) = false := by rfl) :
    PE X (.Call (.Attribute o "append" apos) [e] [] cpos) (rE G (mApp fo fx)) := by
  refine PEimp (pe_bm PySem.F.plainAttrs_list PySem.F.slot_list_append PySem.F.type_list_append mt_append ho (pa_cons hx pa_nil hs) hbase hfew hline hs hplain) fun σ H Q ⟨O, h, φ, env, R, E, P⟩ => ?_
  refine ⟨O, h, φ, env, R, E, (P.bind (rel := relV G)).mono fun v H1 ⟨x, h1, φ1, _, g1, r1, P1⟩ => ?_⟩
  cases q1 : lstAt h1 x with
  | none =>
    simp only [q1] at P1
    exact P1.elim
  | some nx =>
    obtain ⟨n, xs⟩ := nx
    simp only [q1] at P1
    obtain ⟨a, vs, rfl, ea, hn, ho, rs⟩ := lstAt_rv g1.rep r1 q1
    refine ⟨.inl ⟨rfl, vs, SqL.of ho⟩, O, h1, φ1, env, g1.rep, E.go R g1, (Post.bind (rel := relV G) P1).mono fun u H2 ⟨y, h2, φ2, _, g2, r2, P2⟩ => ?_⟩
    have r1' := relV.go g1.rep g2 r1
    cases q2 : lstAt h2 x with
    | none =>
      simp only [q2] at P2
      exact P2.elim
    | some nx =>
      obtain ⟨n2, ys⟩ := nx
      simp only [q2] at P2
      obtain ⟨a2, vs2, ev, ea2, hn2, ho2, rs2⟩ := lstAt_rv g2.rep r1' q2
      cases ev
      by_cases hz : ys.length < sizeLine
      · rw [if_pos hz] at P2
        exact ⟨a, vs2, u, rfl, rfl, ho2, by rw [rs2.length]; exact hz, P2 φ2 _ _ (lwrite g2.rep hn2 ea2 (rs2.snoc r2)) (by simp only [relV, RV])⟩
      · rw [if_neg hz] at P2
        exact P2.elim
theorem s_ext (ho : PE X o (rE G fo)) (hx : PE X e (rE G fx)) (hbase : attributeBase o "extend" X.env (eval o X.env) = eval o X.env := by rfl)
    (hfew : ((backTo cpos (starEach [e] X.env)).all (fun x => !x.1) && (backToKw cpos (keywordEach [] X.env)).all (fun x => x.1.isSome)
      && decide (([e] : List Expr).length + ([] : List Keyword).length + (if ([] : List Keyword).isEmpty then 0 else 1) < 30)) = true := by rfl)
    (hline : (apos.endLine == cpos.line) = true := by rfl) (hs : starEach [e] X.env = (false, eval e X.env) :: starEach [] X.env := by rfl) (hplain : (backTo cpos (starEach [] X.env)).any (·.1) = false := by rfl) :
    PE X (.Call (.Attribute o "extend" apos) [e] [] cpos) (rE G (mExt fo fx)) := by
  refine PEimp (pe_bm PySem.F.plainAttrs_list PySem.F.slot_list_extend PySem.F.type_list_extend mt_extend ho (pa_cons hx pa_nil hs) hbase hfew hline hs hplain) fun σ H Q ⟨O, h, φ, env, R, E, P⟩ => ?_
  refine ⟨O, h, φ, env, R, E, (P.bind (rel := relV G)).mono fun v H1 ⟨x, h1, φ1, _, g1, r1, P1⟩ => ?_⟩
  cases q1 : lstAt h1 x with
  | none =>
    simp only [q1] at P1
    exact P1.elim
  | some nx =>
    obtain ⟨n, xs⟩ := nx
    simp only [q1] at P1
    obtain ⟨a, vs, rfl, ea, hn, ho, rs⟩ := lstAt_rv g1.rep r1 q1
    refine ⟨.inl ⟨rfl, vs, SqL.of ho⟩, O, h1, φ1, env, g1.rep, E.go R g1, (Post.bind (rel := relV G) P1).mono fun u H2 ⟨y, h2, φ2, _, g2, r2, P2⟩ => ?_⟩
    have r1' := relV.go g1.rep g2 r1
    have w2 := RW.view g2.rep r2
    cases q2 : lstAt h2 x with
    | none =>
      simp only [q2] at P2
      exact P2.elim
    | some nx =>
      obtain ⟨n2, ys⟩ := nx
      obtain ⟨a2, vs2, ev, ea2, hn2, ho2, rs2⟩ := lstAt_rv g2.rep r1' q2
      cases ev
      cases q3 : view h2 y with
      | lst zs =>
        rw [q3] at w2
        simp only [q2, q3] at P2
        obtain ⟨b, us, rfl, hb, rb⟩ := w2
        by_cases hz : ys.length + zs.length ≤ sizeLine
        · rw [if_pos hz] at P2
          exact ⟨a, b, vs2, us, rfl, rfl, ho2, hb, by rw [rs2.length, rb.length]; exact hz, P2 φ2 _ _ (lwrite g2.rep hn2 ea2 (RVs.append rs2 rb)) (by simp only [relV, RV])⟩
        · rw [if_neg hz] at P2
          exact P2.elim
      | _ =>
        simp only [q2, q3] at P2
        exact P2.elim
end
/-! ### exact tuples -/
section
variable {X : Cx} {G : Gx}
/-- a new tuple of its own object -/
theorem RV.newX {lv : Addr → Prop} {φ : List Addr} {H : Hp} (ok : ∀ a, lv a → Mut (H a)) {p : Addr} {ob : Obj} (n : H p = none) (hd : ob.dict = none) {xs : List IV} {vs : List V} (r : RVs G lv φ H xs vs) : RV G lv φ (upd H p (.frz ob (.tup vs))) (.tpx xs) (.ref p) := by
  simp only [RV]
  exact ⟨p, vs, rfl, ⟨ob, upd_same, hd⟩, r.same (same_upd n) ok⟩
def tTupX (t : TA) : TE := fun σ H Q => t σ H fun xs H1 => xs.length ≤ sizeLine ∧ ∀ p ob, H1 p = none → ob.dict = none → Q (.ref p) (upd H1 p (.frz ob (.tup xs)))
theorem pe_tupX {es : List Expr} {t : TA} {x1} {pos : Pos} (h : PA X es t) : PE X (.Tuple es x1 pos) (tTupX t) := by
  refine ⟨fun pins s σ H Q I hq => ?_⟩
  refine wpAny_Tuple_spliced (thn (h.run pos pins s σ H _ I hq) fun us s1 ⟨xs, H1, I1, r, z, q⟩ => ⟨by rw [← r.length]; exact z, ?_⟩)
  have hf : H1 s1.heap.objs.size = none := I1.hok.fresh (Nat.le_refl _)
  refine ⟨.ref s1.heap.objs.size, upd H1 s1.heap.objs.size (.frz { cls := .type "tuple", data := .seq us.toArray } (.tup xs)), I1.laid (t' := s1.toks) (fun b u e => Heap.get?_push_of_some _ e) (Nat.le_refl _) ?_, rfl, q _ _ hf rfl⟩
  exact ⟨Heap.get?_push_size _ rfl, z, us, r, ⟨_, Heap.get?_push_size _ rfl, rfl, _, rfl⟩⟩
def mTupX (g : Ma) : Mv := fun env h => (g env h).bind fun xs h1 => if xs.length ≤ sizeLine then .ok (.tpx xs) h1 else .bad
theorem s_tupX {es : List Expr} {fs : Ma} {k : Nat} {pos : Pos} (ha : PA X es (rA G fs)) : PE X (.Tuple es k pos) (rE G (mTupX fs)) := by
  refine PEimp (pe_tupX ha) fun σ H Q ⟨O, h, φ, env, R, E, P⟩ => ?_
  refine ⟨O, h, φ, env, R, E, (P.bind (rel := relA G)).mono fun v H1 ⟨x, h1, φ1, _, g1, r1, P1⟩ => ?_⟩
  split at P1
  · rename_i hz
    refine ⟨by rw [RVs.length r1]; exact hz, fun p ob n hd => ?_⟩
    exact P1 φ1 _ _ (Go.same g1.rep (same_upd n)) (RV.newX g1.rep.ok n hd r1)
  · exact P1.elim
/-- tuple(xs) -/
def rTupleX (K : PySem.W.Frag) : List V → Hp → VK → Prop := fun xs H Q => ∃ p ys, xs = [.ref p] ∧ ((SqL K H p ys ∧ ∀ l ob, H l = none → ob.dict = none → Q (.ref l) (upd H l (.frz ob (.tup ys)))) ∨ (SqT K H p ys ∧ Q (.ref p) H))
theorem call_tupleX : CallR X (.type "tuple") (rTupleX X.K) := by
  intro pins s σ H xs us Q I r h
  obtain ⟨p, ys, rfl, h⟩ := h
  obtain ⟨u, rfl, rx⟩ := vals1 r
  cases rx
  rcases h with ⟨hq, q⟩ | ⟨hq, q⟩
  · obtain ⟨its, r', pl, hz⟩ := I.list hq
    have hlen := r'.length
    refine call_tuple_list pl.isList (fun h' kp => ?_) (by simp only [List.size_toArray] <;> omega)
    have I1 : Inv X pins σ H { s with heap := h' } := I.kept (t' := s.toks) kp
    have I2 : Inv X pins σ (upd H h'.objs.size (.frz { cls := .type "tuple", data := .seq its.toArray } (.tup ys))) { s with heap := h'.push { cls := .type "tuple", data := .seq its.toArray } } :=
      I1.laid (t' := s.toks) (fun b o e => Heap.get?_push_of_some _ e) (Nat.le_refl _) (show ObjOk X.prog X.w _ _ _ (.frz _ (.tup ys)) from ⟨Heap.get?_push_size _ rfl, hz, its, r', IsTup.new _ _⟩)
    exact ⟨.ref h'.objs.size, _, I2, rfl, q _ _ (I1.hok.fresh (Nat.le_refl _)) rfl⟩
  · obtain ⟨its, r', pl, hz⟩ := I.tuple hq
    exact call_tuple_same pl ⟨.ref p, H, I, rfl, q⟩
end
def bTupleX : Bf := fun xs h => match xs with
  | [x] => match lstI (view h x) with
    | some ys => .ok (.tpx ys) h
    | none => match x with
      | .tpx ys => .ok (.tpx ys) h
      | .tup ys => .ok (.tup ys) h
      | _ => .bad
  | _ => .bad
theorem b_tupleX {G : Gx} : BF G (rTupleX G.K) bTupleX := by
  intro O h φ H xs vs Q R r P
  unfold bTupleX at P
  split at P
  · rename_i x
    obtain ⟨v, rfl, ra⟩ := rvs1 r; replace r := ra
    split at P
    · rename_i ys e
      obtain ⟨p, us, rfl, ru, hq⟩ := lstw_of R r e
      exact ⟨p, us, rfl, .inl ⟨hq, fun l ob n hd => P φ _ _ (Go.same R (same_upd n)) (RV.newX R.ok n hd ru)⟩⟩
    · split at P
      · have r' := r
        simp only [RV] at r
        obtain ⟨p, us, rfl, hq, ru⟩ := r
        exact ⟨p, us, rfl, .inr ⟨hq.sq, P φ H _ (Go.refl R) r'⟩⟩
      · have r' := r
        simp only [RV] at r
        obtain ⟨p, us, rfl, hq, ru⟩ := r
        exact ⟨p, us, rfl, .inr ⟨hq, P φ H _ (Go.refl R) r'⟩⟩
      · exact P.elim
  · exact P.elim
/-- a + b of tuples, the new object known -/
def rCatX (K : PySem.W.Frag) : R2 := fun x y H Q => ∃ a b xs ys, x = .ref a ∧ y = .ref b ∧ SqT K H a xs ∧ SqT K H b ys ∧ xs ≠ [] ∧ ys ≠ [] ∧ xs.length + ys.length ≤ sizeLine ∧ ∀ p ob, H p = none → ob.dict = none → Q (.ref p) (upd H p (.frz ob (.tup (xs ++ ys))))
theorem op_catX {X : Cx} : OpR X (binaryOp .Add) (rCatX X.K) := by
  intro pins s σ H x y v u Q I rx ry h
  obtain ⟨a, b, xs, ys, rfl, rfl, ha, hb, hx, hy, hz, q2⟩ := h
  cases rx
  cases ry
  obtain ⟨its, r1, p1, _⟩ := I.tuple ha
  obtain ⟨its2, r2, p2, _⟩ := I.tuple hb
  refine HT.cat_tup p1 p2 (fun z => hx (r1.nil_iff.mp z)) (fun z => absurd (r2.nil_iff.mp z) hy) (fun z => ?_) (by rw [← r1.length, ← r2.length]; exact hz)
  refine ⟨.ref s.heap.objs.size, _, I.laid (t' := s.toks) (o := .frz { cls := .type "tuple", data := .seq (its ++ its2).toArray } (.tup (xs ++ ys))) (fun b ob q => Heap.get?_push_of_some _ q) (Nat.le_refl _) ?_, rfl, q2 _ _ (I.hok.fresh (Nat.le_refl _)) rfl⟩
  exact ⟨Heap.get?_push_size _ rfl, by rw [List.length_append]; exact hz, _, r1.append r2, IsTup.new _ _⟩
def tupI : IV → Option (List IV)
  | .tup xs => some xs
  | _ => none
def mCatX (fa fb : Mv) : Mv := fun env h => (fa env h).bind fun x h1 => (fb env h1).bind fun y h2 => match tupI (view h2 x), tupI (view h2 y) with
  | some xs, some ys => if xs ≠ [] ∧ ys ≠ [] ∧ xs.length + ys.length ≤ sizeLine then .ok (.tpx (xs ++ ys)) h2 else .bad
  | _, _ => .bad
theorem tupw_of {G : Gx} {O : Addr → Prop} {h : IH} {φ : List Addr} {H : Hp} (R : Rep G O h φ H) {x : IV} {v : V} {xs : List IV} (r : RV G (Lv O h φ) φ H x v) (e : tupI (view h x) = some xs) : ∃ p vs, v = .ref p ∧ RVs G (Lv O h φ) φ H xs vs ∧ SqT G.K H p vs := by
  have w := RW.view R r
  cases q : view h x with
  | tup ys =>
    rw [q] at w e
    cases e
    simp only [RW, RV] at w
    obtain ⟨p, vs, rfl, hq, r⟩ := w
    exact ⟨p, vs, rfl, r, hq⟩
  | _ =>
    rw [q] at e
    cases e
theorem rvs_nil {G : Gx} {lv : Addr → Prop} {φ : List Addr} {H : Hp} {xs : List IV} {vs : List V} (r : RVs G lv φ H xs vs) (n : xs ≠ []) : vs ≠ [] := fun z => n (by
  have l := r.length
  rw [z] at l
  exact List.length_eq_zero_iff.mp l.symm)
theorem s_catX {X : Cx} {G : Gx} {a b : Expr} {fa fb : Mv} {pos : Pos} (hK : G.K = X.K) (ha : PE X a (rE G fa)) (hb : PE X b (rE G fb)) : PE X (.BinOp a .Add b pos) (rE G (mCatX fa fb)) := by
  refine PEimp (pe_op op_catX ha hb) fun σ H Q ⟨O, h, φ, env, R, E, P⟩ => ?_
  refine ⟨O, h, φ, env, R, E, (P.bind (rel := relV G)).mono fun v H1 ⟨x, h1, φ1, _, g1, r1, P1⟩ => ?_⟩
  refine ⟨O, h1, φ1, env, g1.rep, E.go R g1, (P1.bind (rel := relV G)).mono fun u H2 ⟨y, h2, φ2, _, g2, r2, P2⟩ => ?_⟩
  have r1' := relV.go g1.rep g2 r1
  cases q1 : tupI (view h2 x) with
  | none =>
    simp only [q1] at P2
    exact P2.elim
  | some xs =>
    cases q2 : tupI (view h2 y) with
    | none =>
      simp only [q1, q2] at P2
      exact P2.elim
    | some ys =>
      simp only [q1, q2] at P2
      by_cases hz : xs ≠ [] ∧ ys ≠ [] ∧ xs.length + ys.length ≤ sizeLine
      · rw [if_pos hz] at P2
        obtain ⟨p, vs, rfl, rs, hq⟩ := tupw_of g2.rep r1' q1
        obtain ⟨p2, vs2, rfl, rs2, hq2⟩ := tupw_of g2.rep r2 q2
        exact ⟨p, p2, vs, vs2, rfl, rfl, hK ▸ hq, hK ▸ hq2, rvs_nil rs hz.1, rvs_nil rs2 hz.2.1, by rw [rs.length, rs2.length]; exact hz.2.2, fun l ob n hd => P2 φ2 _ _ (Go.same g2.rep (same_upd n)) (RV.newX g2.rep.ok n hd (RVs.append rs rs2))⟩
      · rw [if_neg hz] at P2
        exact P2.elim
/-! ### t.index(x), t.count(x) -/
def TyT (H : Hp) (x : V) : Prop := ∃ p vs, x = .ref p ∧ SqX H p vs
theorem tyT_is {X : Cx} {pins : List (Addr × Obj)} {σ : L2.St} {H : Hp} {s : Shared} {x : V} {v : Value} (I : Inv X pins σ H s) (r : RelV x v) (ty : TyT H x) : s.TypeIs v "tuple" ∧ ∀ a, v = .ref a → ∃ ob, s.heap.get? a = some ob ∧ ob.dict = none := by
  obtain ⟨p, vs, rfl, o, e, hd⟩ := ty
  cases r
  obtain ⟨e1, hz, its, rv, o', e2, hc, n, hdt⟩ := I.hok p _ e
  rw [e1] at e2
  cases e2
  exact ⟨⟨o, e1, hc⟩, fun a ea => by cases ea; exact ⟨o, e1, hd⟩⟩
def tTM (r : V → List V → Hp → VK → Prop) (to : TE) (t : TA) : TE := fun σ H Q => to σ H fun x H1 => TyT H1 x ∧ t σ H1 fun xs H2 => r x xs H2 Q
section
variable {X : Cx} {G : Gx} {o e : Expr} {es : List Expr} {to : TE} {t : TA} {name : Str} {apos cpos : Pos} {id : String} {r : V → List V → Hp → VK → Prop}
theorem pe_tm (slot : Slot "tuple" name id) (hty : typeOf (.builtin id) = pure (.type "method_descriptor")) (hm : MtR X id r) (ho : PE X o to) (ha : PA X (e :: es) t)
    (hbase : attributeBase o name X.env (eval o X.env) = eval o X.env := by rfl)
    (hfew : ((backTo cpos (starEach (e :: es) X.env)).all (fun x => !x.1) && (backToKw cpos (keywordEach [] X.env)).all (fun x => x.1.isSome)
      && decide ((e :: es).length + ([] : List Keyword).length + (if ([] : List Keyword).isEmpty then 0 else 1) < 30)) = true := by rfl)
    (hline : (apos.endLine == cpos.line) = true := by rfl) (hs : starEach (e :: es) X.env = (false, eval e X.env) :: starEach es X.env := by rfl) (hplain : (backTo cpos (starEach es X.env)).any (·.1) = false := by rfl) :
    PE X (.Call (.Attribute o name apos) (e :: es) [] cpos) (tTM r to t) := by
  refine ⟨fun pins s σ H Q I h => ?_⟩
  refine wpAny_Call_method_late hbase hfew hline rfl (thn (ho.run pins s σ H _ I h) fun v s1 ⟨x, H1, I1, r1, ty, q1⟩ => ?_)
  obtain ⟨h1, h2⟩ := tyT_is I1 r1 ty
  refine ⟨"tuple", id, PySem.F.plainAttrs_tuple, slot, hty, h1, h2, ?_⟩
  have hA := ha.run cpos pins s1 σ H1 _ I1 q1
  rw [hs] at hA ⊢
  refine Calls.callWith_builtin (by show (false || (backTo cpos (starEach es X.env)).any (·.1)) = false; rw [hplain] <;> rfl) (Calls.evalArgs_plain ?_)
  exact thn hA fun us s2 ⟨vs, H2, I2, r2, q2⟩ => hm pins s2 σ H2 x vs v us Q I2 r1 r2 q2
/-- the first place of an equal flat item; how many -/
def rTix (K : PySem.W.Frag) : V → List V → Hp → VK → Prop := fun x xs H Q => ∃ (a : Addr) (ys : List V) (y : V) (j : Nat) (z : V), x = V.ref a ∧ xs = [y] ∧ SqT K H a ys ∧ flatV y = true ∧ ys.all flatV = true ∧ ys[j]? = some z ∧ eqV z y = true ∧
  (∀ (m : Nat) (z' : V), m < j → ys[m]? = some z' → eqV z' y = false) ∧ Q (.int (j : Nat)) H
def rTct (K : PySem.W.Frag) : V → List V → Hp → VK → Prop := fun x xs H Q => ∃ (a : Addr) (ys : List V) (y : V), x = V.ref a ∧ xs = [y] ∧ SqT K H a ys ∧ flatV y = true ∧ ys.all flatV = true ∧ Q (.int ((ys.countP fun z => eqV z y : Nat) : Int)) H
theorem mt_tix : MtR X "tuple.index" (rTix X.K) := by
  intro pins s σ H x xs v us Q I rx rxs h
  obtain ⟨a, ys, y, j, z, rfl, rfl, hs, fy, fys, hz, hzj, hno, q⟩ := h
  cases rx
  obtain ⟨uy, rfl, ry⟩ := vals1 rxs
  obtain ⟨its, rv, pl, hlen⟩ := I.tuple hs
  obtain ⟨⟨cls, dd, dt, sl⟩, ho, hc, n, hd⟩ := pl
  simp only at hc hd
  subst hc hd
  obtain ⟨u, hu, ru⟩ := rv.get hz
  obtain ⟨hjl, hje⟩ := List.getElem?_eq_some_iff.mp hu
  have hvl := rv.length
  have hj : j < its.toArray.size := by simpa using hjl
  refine call_meets PySem.F.slot_tuple_index ⟨_, ho, rfl⟩ PySem.F.entry_tuple_index (PySem.F.args_tuple_index_2 _ _) (TI.tuple_indexAt a its.toArray n dd sl uy (eqU y) j hj ?_ ?_)
    ⟨ho, fun w hw => mem_eqAt ry fy rv fys w (by simpa using hw), ⟨.int (j : Nat), H, I.tok _, ⟨_, rfl⟩, q⟩⟩
  · have e1 : its.toArray[j] = u := by simpa using hje
    rw [e1, eqU_of ru (flat_at fys hz)]
    exact hzj
  · intro m hm hmj
    have hml : m < its.length := by simpa using hm
    have hmy : m < ys.length := by omega
    have hy' : ys[m]? = some ys[m] := List.getElem?_eq_getElem hmy
    obtain ⟨u2, hu2, ru2⟩ := rv.get hy'
    obtain ⟨_, hme⟩ := List.getElem?_eq_some_iff.mp hu2
    have e1 : its.toArray[m] = u2 := by simpa using hme
    rw [e1, eqU_of ru2 (flat_at fys hy')]
    exact hno m _ hmj hy'
theorem count_eqU {x : V} : ∀ {xs : List V} {us : List Value}, Vals xs us → xs.all flatV = true → us.countP (eqU x) = xs.countP fun y => eqV y x
  | _, _, .nil, _ => rfl
  | y :: xs, u :: us, .cons r t, f => by
    rw [List.all_cons, Bool.and_eq_true] at f
    rw [List.countP_cons, List.countP_cons, count_eqU t f.2, eqU_of r f.1]
theorem mt_tct : MtR X "tuple.count" (rTct X.K) := by
  intro pins s σ H x xs v us Q I rx rxs h
  obtain ⟨a, ys, y, rfl, rfl, hs, fy, fys, q⟩ := h
  cases rx
  obtain ⟨uy, rfl, ry⟩ := vals1 rxs
  obtain ⟨its, rv, pl, hlen⟩ := I.tuple hs
  obtain ⟨⟨cls, dd, dt, sl⟩, ho, hc, n, hd⟩ := pl
  simp only at hc hd
  subst hc hd
  refine call_meets PySem.F.slot_tuple_count ⟨_, ho, rfl⟩ PySem.F.entry_tuple_count (PySem.F.args_tuple_count_2 _ _) (SeqAt.tuple_countAt a its.toArray n dd sl uy (eqU y))
    ⟨ho, fun w hw => mem_eqAt ry fy rv fys w (by simpa using hw), ?_⟩
  refine ⟨.int _, H, I.tok _, ⟨s.toks, rfl⟩, ?_⟩
  have : its.toArray.toList.countP (eqU y) = ys.countP fun z => eqV z y := count_eqU rv fys
  rw [this]
  exact q
end
def ixF (x : IV) : Nat → List IV → Option Nat
  | _, [] => none
  | n, y :: ys => if eqF y x = true then some n else ixF x (n + 1) ys
def mTix (fo fx : Mv) : Mv := fun env h => (fo env h).bind fun x h1 => match x with
  | .tpx xs => (fx env h1).bind fun y h2 => if flatI y = true ∧ xs.all flatI = true then .ofO ((ixF y 0 xs).map fun n => .int (n : Int)) h2 else .bad
  | _ => .bad
def mTct (fo fx : Mv) : Mv := fun env h => (fo env h).bind fun x h1 => match x with
  | .tpx xs => (fx env h1).bind fun y h2 => if flatI y = true ∧ xs.all flatI = true then .ok (.int (((xs.countP fun z => eqF z y) : Nat) : Int)) h2 else .bad
  | _ => .bad
section
variable {G : Gx} {lv : Addr → Prop} {φ : List Addr} {H : Hp}
theorem eqF_rv {x y : IV} {v w : V} (fx : flatI x = true) (fy : flatI y = true) (rx : RV G lv φ H x v) (ry : RV G lv φ H y w) : eqV w v = eqF y x := by
  cases x <;> simp only [flatI] at fx <;> first | (exfalso; exact absurd fx (by decide)) | skip
  all_goals (cases y <;> simp only [flatI] at fy <;> first | (exfalso; exact absurd fy (by decide)) | skip)
  all_goals (simp only [RV] at rx ry; subst rx ry; rfl)
theorem flatV_of {x : IV} {v : V} (fx : flatI x = true) (rx : RV G lv φ H x v) : flatV v = true := by
  cases x <;> simp only [flatI] at fx <;> first | (exfalso; exact absurd fx (by decide)) | skip
  all_goals (simp only [RV] at rx; subst rx; rfl)
theorem flatsV_of : ∀ {xs : List IV} {vs : List V}, xs.all flatI = true → RVs G lv φ H xs vs → vs.all flatV = true
  | [], vs, _, r => by
    simp only [RVs] at r
    subst r
    rfl
  | x :: xs, vs, f, r => by
    simp only [RVs] at r
    obtain ⟨v, us, rfl, r1, r2⟩ := r
    rw [List.all_cons, Bool.and_eq_true] at f ⊢
    exact ⟨flatV_of f.1 r1, flatsV_of f.2 r2⟩
theorem ixF_of {x : IV} {v : V} (fx : flatI x = true) (rx : RV G lv φ H x v) : ∀ {xs : List IV} {vs : List V} {n j : Nat}, xs.all flatI = true → RVs G lv φ H xs vs → ixF x n xs = some j → ∃ m z, j = n + m ∧ vs[m]? = some z ∧ eqV z v = true ∧ ∀ (k : Nat) (z' : V), k < m → vs[k]? = some z' → eqV z' v = false
  | [], vs, n, j, _, r, e => by cases e
  | y :: ys, vs, n, j, f, r, e => by
    simp only [RVs] at r
    obtain ⟨w, us, rfl, r1, r2⟩ := r
    rw [List.all_cons, Bool.and_eq_true] at f
    have eq := eqF_rv fx f.1 rx r1
    simp only [ixF] at e
    split at e
    · rename_i h
      cases e
      exact ⟨0, w, rfl, rfl, by rw [eq]; exact h, fun k z' hk => by omega⟩
    · rename_i h
      obtain ⟨m, z, e1, e2, e3, e4⟩ := ixF_of fx rx f.2 r2 e
      refine ⟨m + 1, z, by omega, by simpa using e2, e3, fun k z' hk ek => ?_⟩
      cases k with
      | zero =>
        simp at ek
        subst ek
        rw [eq]
        simpa using h
      | succ k => exact e4 k z' (by omega) (by simpa using ek)
theorem ctF_of {x : IV} {v : V} (fx : flatI x = true) (rx : RV G lv φ H x v) : ∀ {xs : List IV} {vs : List V}, xs.all flatI = true → RVs G lv φ H xs vs → (vs.countP fun z => eqV z v) = xs.countP fun z => eqF z x
  | [], vs, _, r => by
    simp only [RVs] at r
    subst r
    rfl
  | y :: ys, vs, f, r => by
    simp only [RVs] at r
    obtain ⟨w, us, rfl, r1, r2⟩ := r
    rw [List.all_cons, Bool.and_eq_true] at f
    rw [List.countP_cons, List.countP_cons, ctF_of fx rx f.2 r2, eqF_rv fx f.1 rx r1]
end
section
variable {X : Cx} {G : Gx} {o e : Expr} {fo fx : Mv} {apos cpos : Pos}
theorem s_tix (hK : G.K = X.K) (ho : PE X o (rE G fo)) (hx : PE X e (rE G fx)) (hbase : attributeBase o "index" X.env (eval o X.env) = eval o X.env := by rfl)
    (hfew : ((backTo cpos (starEach [e] X.env)).all (fun x => !x.1) && (backToKw cpos (keywordEach [] X.env)).all (fun x => x.1.isSome)
      && decide (([e] : List Expr).length + ([] : List Keyword).length + (if ([] : List Keyword).isEmpty then 0 else 1) < 30)) = true := by rfl)
    (hline : (apos.endLine == cpos.line) = true := by rfl) (hs : starEach [e] X.env = (false, eval e X.env) :: starEach [] X.env := by rfl) (hplain : (backTo cpos (starEach [] X.env)).any (·.1) = false := by rfl) :
    PE X (.Call (.Attribute o "index" apos) [e] [] cpos) (rE G (mTix fo fx)) := by
  refine PEimp (pe_tm PySem.F.slot_tuple_index PySem.F.type_tuple_index mt_tix ho (pa_cons hx pa_nil hs) hbase hfew hline hs hplain) fun σ H Q ⟨O, h, φ, env, R, E, P⟩ => ?_
  refine ⟨O, h, φ, env, R, E, (P.bind (rel := relV G)).mono fun v H1 ⟨x, h1, φ1, _, g1, r1, P1⟩ => ?_⟩
  cases x with
  | tpx xs =>
    have r1' := r1
    simp only [relV, RV] at r1'
    obtain ⟨p, vs, rfl, hq, rs⟩ := r1'
    refine ⟨⟨p, vs, rfl, hq⟩, O, h1, φ1, env, g1.rep, E.go R g1, (Post.bind (rel := relV G) P1).mono fun u H2 ⟨y, h2, φ2, _, g2, r2, P2⟩ => ?_⟩
    have P3 : Post (relV G) G O h2 φ2 H2 (if flatI y = true ∧ xs.all flatI = true then .ofO ((ixF y 0 xs).map fun n => .int (n : Int)) h2 else .bad) Q := P2
    by_cases f : flatI y = true ∧ xs.all flatI = true
    · rw [if_pos f] at P3
      have r1' := relV.go g1.rep g2 r1
      simp only [relV, RV] at r1'
      obtain ⟨p', vs', ev, hq', rs'⟩ := r1'
      cases ev
      cases q : ixF y 0 xs with
      | none =>
        rw [q] at P3
        exact P3.elim
      | some j =>
        rw [q] at P3
        obtain ⟨m, z, e1, e2, e3, e4⟩ := ixF_of f.1 r2 f.2 rs' q
        have e1' : j = m := by omega
        subst e1'
        exact ⟨p, vs', u, j, z, rfl, rfl, hq'.sq, flatV_of f.1 r2, flatsV_of f.2 rs', e2, e3, e4, P3 φ2 H2 _ (Go.refl g2.rep) (by simp only [relV, RV])⟩
    · rw [if_neg f] at P3
      exact P3.elim
  | _ => exact P1.elim
theorem s_tct (hK : G.K = X.K) (ho : PE X o (rE G fo)) (hx : PE X e (rE G fx)) (hbase : attributeBase o "count" X.env (eval o X.env) = eval o X.env := by rfl)
    (hfew : ((backTo cpos (starEach [e] X.env)).all (fun x => !x.1) && (backToKw cpos (keywordEach [] X.env)).all (fun x => x.1.isSome)
      && decide (([e] : List Expr).length + ([] : List Keyword).length + (if ([] : List Keyword).isEmpty then 0 else 1) < 30)) = true := by rfl)
    (hline : (apos.endLine == cpos.line) = true := by rfl) (hs : starEach [e] X.env = (false, eval e X.env) :: starEach [] X.env := by rfl) (hplain : (backTo cpos (starEach [] X.env)).any (·.1) = false := by rfl) :
    PE X (.Call (.Attribute o "count" apos) [e] [] cpos) (rE G (mTct fo fx)) := by
  refine PEimp (pe_tm PySem.F.slot_tuple_count PySem.F.type_tuple_count mt_tct ho (pa_cons hx pa_nil hs) hbase hfew hline hs hplain) fun σ H Q ⟨O, h, φ, env, R, E, P⟩ => ?_
  refine ⟨O, h, φ, env, R, E, (P.bind (rel := relV G)).mono fun v H1 ⟨x, h1, φ1, _, g1, r1, P1⟩ => ?_⟩
  cases x with
  | tpx xs =>
    have r1' := r1
    simp only [relV, RV] at r1'
    obtain ⟨p, vs, rfl, hq, rs⟩ := r1'
    refine ⟨⟨p, vs, rfl, hq⟩, O, h1, φ1, env, g1.rep, E.go R g1, (Post.bind (rel := relV G) P1).mono fun u H2 ⟨y, h2, φ2, _, g2, r2, P2⟩ => ?_⟩
    have P3 : Post (relV G) G O h2 φ2 H2 (if flatI y = true ∧ xs.all flatI = true then .ok (.int (((xs.countP fun z => eqF z y) : Nat) : Int)) h2 else .bad) Q := P2
    by_cases f : flatI y = true ∧ xs.all flatI = true
    · rw [if_pos f] at P3
      have r1' := relV.go g1.rep g2 r1
      simp only [relV, RV] at r1'
      obtain ⟨p', vs', ev, hq', rs'⟩ := r1'
      cases ev
      refine ⟨p, vs', u, rfl, rfl, hq'.sq, flatV_of f.1 r2, flatsV_of f.2 rs', ?_⟩
      rw [ctF_of f.1 r2 f.2 rs']
      exact P3 φ2 H2 _ (Go.refl g2.rep) (by simp only [relV, RV])
    · rw [if_neg f] at P3
      exact P3.elim
  | _ => exact P1.elim
end
/-! ### isinstance -/
/-- a value's type -/
inductive Tg where
  | ty (s : String)
  | cl (c : Nat)
def Tg.val (G : Gx) : Tg → Value
  | .ty s => .type s
  | .cl c => .ref (G.cad c)
def tgI : IV → Option Tg
  | .non => some (.ty "NoneType")
  | .bl _ => some (.ty "bool")
  | .int _ => some (.ty "int")
  | .str _ => some (.ty "str")
  | .tup _ => some (.ty "tuple")
  | .lst _ => some (.ty "list")
  | .rdl _ => some (.ty "list")
  | .dic _ _ => some (.ty "dict")
  | .ins c _ _ => some (.cl c)
  | _ => none
theorem tg_of {G : Gx} (F : Facts G) {lv : Addr → Prop} {φ : List Addr} {H : Hp} {x : IV} {v : V} {t : Tg} (w : RW G lv φ H x v) (e : tgI x = some t) : TyX G.K H v (t.val G) := by
  cases x with
  | non => simp only [RW, RV] at w; subst w; cases e; exact .base .non
  | bl b => simp only [RW, RV] at w; subst w; cases e; exact .base (.bl b)
  | int b => simp only [RW, RV] at w; subst w; cases e; exact .base (.int b)
  | str b => simp only [RW, RV] at w; subst w; cases e; exact .base (.str b)
  | tup xs =>
    simp only [RW, RV] at w
    cases e
    obtain ⟨p, vs, rfl, (hq | ⟨o, hq⟩) | ⟨o, its, n, hk, hc, _⟩, r⟩ := w
    · exact .base (.tup hq)
    · exact .fTuple hq
    · exact .kTuple hk hc
  | lst xs =>
    cases e
    obtain ⟨p, vs, rfl, hq, r⟩ := w
    exact .base (.lst hq)
  | rdl xs =>
    simp only [RW, RV] at w
    cases e
    obtain ⟨p, vs, rfl, ⟨hq | ⟨o, hq⟩, _⟩ | ⟨o, its, n, hk, hc, _⟩, r⟩ := w
    · exact .base (.lst hq)
    · exact .base (.frz hq)
    · exact .kList hk hc
  | dic ks vs =>
    cases e
    obtain ⟨p, kvs, rfl, e1, t⟩ := dic_rd w
    exact .base (.dK e1)
  | ins c ns vs =>
    cases e
    obtain ⟨p, dx, fvs, rfl, hq, ok, r⟩ := w
    have f := F.cls c ok.1
    exact .base (.ins hq f.cl f.ha f.hn f.htk f.hm)
  | _ => cases e
/-- isinstance(x, C), C a name; kt tells the answers -/
def mIsi (kt : Tg → Option Bool) (f : Mv) : Mv := fun env h => (f env h).bind fun x h1 => .ofO (((tgI (view h1 x)).bind kt).map .bl) h1
section
variable {X : Cx} {G : Gx} {e c : Expr} {f : Mv} {p pos : Pos} {cv : V} {cu : Value} {kt : Tg → Option Bool}
theorem s_isi (F : Facts G) (hK : G.K = X.K) (hg : Gl X "isinstance") (hm : X.mg "isinstance" = none) (he : PE X e (rE G f)) (hc : PE X c (tC cv)) (cl : ClsV cv cu) (hk : ∀ t b, kt t = some b → PySem.W.kitOne G.K (t.val G) cu = some b)
    (hv : bootBuiltins "isinstance" = some (.builtin "isinstance") := by rfl) (hs : starEach [e, c] X.env = (false, eval e X.env) :: starEach [c] X.env := by rfl) (hs2 : starEach [c] X.env = (false, eval c X.env) :: starEach [] X.env := by rfl) (hpl : (backTo pos (starEach [c] X.env)).any (·.1) = false := by rfl) :
    PE X (.Call (.Name "isinstance" p) [e, c] [] pos) (rE G (mIsi kt f)) := by
  refine PEimp (pe_callB call_isi hg hm hv (pa_cons he (pa_cons hc pa_nil hs2) hs) (by decide) (by decide) hs hpl) fun σ H Q ⟨O, h, φ, env, R, E, P⟩ => ?_
  refine ⟨O, h, φ, env, R, E, (P.bind (rel := relV G)).mono fun v H1 ⟨x, h1, φ1, _, g1, r1, P1⟩ => ?_⟩
  have w := RW.view g1.rep r1
  cases q : tgI (view h1 x) with
  | none =>
    rw [q] at P1
    exact P1.elim
  | some t =>
    rw [q] at P1
    cases q2 : kt t with
    | none =>
      simp only [Option.bind_some, q2] at P1
      exact P1.elim
    | some b =>
      simp only [Option.bind_some, q2] at P1
      exact ⟨v, cv, t.val G, cu, b, rfl, cl, hK ▸ tg_of F w q, hK ▸ hk t b q2, P1 φ1 H1 _ (Go.refl g1.rep) (by simp only [relV, RV])⟩
/-- isinstance(x, (C, D, ..)) -/
theorem s_isiT {es : List Expr} {k : Nat} {tpos : Pos} {cvs : List V} {cus : List Value} (F : Facts G) (hK : G.K = X.K) (hg : Gl X "isinstance") (hm : X.mg "isinstance" = none) (he : PE X e (rE G f)) (hc : PA X es (fun σ H Q => Q cvs H)) (cl : Paired ClsV cvs cus) (hl : cvs.length ≤ sizeLine) (hk : ∀ t b, kt t = some b → PySem.W.kitAny G.K (t.val G) cus = some b)
    (hv : bootBuiltins "isinstance" = some (.builtin "isinstance") := by rfl) (hs : starEach [e, .Tuple es k tpos] X.env = (false, eval e X.env) :: starEach [.Tuple es k tpos] X.env := by rfl) (hs2 : starEach [.Tuple es k tpos] X.env = (false, eval (.Tuple es k tpos) X.env) :: starEach [] X.env := by rfl) (hpl : (backTo pos (starEach [.Tuple es k tpos] X.env)).any (·.1) = false := by rfl) :
    PE X (.Call (.Name "isinstance" p) [e, .Tuple es k tpos] [] pos) (rE G (mIsi kt f)) := by
  refine PEimp (pe_callB call_isiT hg hm hv (pa_cons he (pa_cons (pe_tup hc) pa_nil hs2) hs) (by decide) (by decide) hs hpl) fun σ H Q ⟨O, h, φ, env, R, E, P⟩ => ?_
  refine ⟨O, h, φ, env, R, E, (P.bind (rel := relV G)).mono fun v H1 ⟨x, h1, φ1, _, g1, r1, P1⟩ => ?_⟩
  refine ⟨hl, fun tp n => ?_⟩
  have gs := Go.same g1.rep (same_upd (o := .tup cvs) n)
  have w := RW.view gs.rep (relV.go g1.rep gs r1)
  cases q : tgI (view h1 x) with
  | none =>
    rw [q] at P1
    exact P1.elim
  | some t =>
    rw [q] at P1
    cases q2 : kt t with
    | none =>
      simp only [Option.bind_some, q2] at P1
      exact P1.elim
    | some b =>
      simp only [Option.bind_some, q2] at P1
      exact ⟨v, tp, cvs, t.val G, cus, b, rfl, upd_same, cl, hK ▸ tg_of F w q, hK ▸ hk t b q2, P1 φ1 _ _ gs (by simp only [relV, RV])⟩
end
end Iv

/-! IvR: dicts whose keys are tuples of any depth. -/
namespace Iv
open PySem PySem.Spec PyProof.Rows L2

abbrev dno (p : Addr) (o : Obj) : HO := .ext fun h => h.get? p = some o
theorem dno_ok {P : Program} {w : World} {H : Hp} {h : Heap} {p : Addr} {o : Obj} (e : h.get? p = some o) : ObjOk P w H h p (dno p o) := ⟨e, ⟨o, e⟩, fun h1 h2 e1 k => k _ e1⟩
/-! ### keys -/
mutual
theorem nk_is {X : Cx} {G : Gx} (hK : G.K = X.K) {pins : List (Addr × Obj)} {σ : L2.St} {lv : Addr → Prop} {φ : List Addr} {H : Hp} {s : Shared} (I : Inv X pins σ H s) : ∀ {x : IV} {v : V} {u : Value} {k : NestedKey}, RV G lv φ H x v → RelV v u → nkI x = some k → NestedIs s.heap k u
  | .non, v, u, k, r, ru, e => by
    simp only [RV] at r
    subst r
    cases e
    cases (show u = Value.none from ru)
    exact .none
  | .bl b, v, u, k, r, ru, e => by
    simp only [RV] at r
    subst r
    cases e
    cases (show u = Value.bool b from ru)
    exact .bool rfl
  | .int i, v, u, k, r, ru, e => by
    simp only [RV] at r
    subst r
    cases e
    obtain ⟨t, rfl⟩ := (show ∃ t, u = Value.int i t from ru)
    exact .int i t
  | .str i, v, u, k, r, ru, e => by
    simp only [RV] at r
    subst r
    cases e
    obtain ⟨t, rfl⟩ := (show ∃ t, u = Value.str i t from ru)
    exact .text i t
  | .tup xs, v, u, k, r, ru, e => by
    simp only [RV] at r
    obtain ⟨p, vs, rfl, hq, rs⟩ := r
    simp only [nkI, Option.map_eq_some_iff] at e
    obtain ⟨ks, e1, rfl⟩ := e
    cases (show u = Value.ref p from ru)
    obtain ⟨its, rv, ⟨o, ho, hc, n, hd⟩, hz⟩ := I.tuple (hK ▸ hq)
    exact .tup ho hc hd (nks_is hK I rs rv e1)
  | .tpx xs, v, u, k, r, ru, e => by
    simp only [RV] at r
    obtain ⟨p, vs, rfl, hq, rs⟩ := r
    simp only [nkI, Option.map_eq_some_iff] at e
    obtain ⟨ks, e1, rfl⟩ := e
    cases (show u = Value.ref p from ru)
    obtain ⟨its, rv, ⟨o, ho, hc, n, hd⟩, hz⟩ := I.tuple (hq.sq (K := X.K))
    exact .tup ho hc hd (nks_is hK I rs rv e1)
  | .lst _, v, u, k, r, ru, e => by simp only [nkI] at e; cases e
  | .dic _ _, v, u, k, r, ru, e => by simp only [nkI] at e; cases e
  | .dcn _ _, v, u, k, r, ru, e => by simp only [nkI] at e; cases e
  | .ins _ _ _, v, u, k, r, ru, e => by simp only [nkI] at e; cases e
  | .rdl _, v, u, k, r, ru, e => by simp only [nkI] at e; cases e
  | .ref _, v, u, k, r, ru, e => by simp only [nkI] at e; cases e
theorem nks_is {X : Cx} {G : Gx} (hK : G.K = X.K) {pins : List (Addr × Obj)} {σ : L2.St} {lv : Addr → Prop} {φ : List Addr} {H : Hp} {s : Shared} (I : Inv X pins σ H s) : ∀ {xs : List IV} {vs : List V} {us : List Value} {ks : List NestedKey}, RVs G lv φ H xs vs → Vals vs us → nksI xs = some ks → NestedAll s.heap ks us
  | [], vs, us, ks, r, ru, e => by
    simp only [RVs] at r
    subst r
    cases e
    cases ru
    exact .nil
  | x :: xs, vs, us, ks, r, ru, e => by
    simp only [RVs] at r
    obtain ⟨v, r', rfl, r1, r2⟩ := r
    simp only [nksI] at e
    split at e
    · rename_i k ks' e1 e2
      cases e
      cases ru with
      | cons a b => exact .cons (nk_is hK I r1 a e1) (nks_is hK I r2 b e2)
    · cases e
end
theorem nkey_ok {x : IV} {k : NestedKey} (e : nkey x = some k) : nkI x = some k ∧ k.depth ≤ 8 := by
  unfold nkey at e
  split at e
  · split at e
    · rename_i ks e1
      split at e
      · rename_i hd
        cases e
        exact ⟨by simp only [nkI, e1, Option.map_some], hd⟩
      · cases e
    · cases e
  · split at e
    · rename_i ks e1
      split at e
      · rename_i hd
        cases e
        exact ⟨by simp only [nkI, e1, Option.map_some], hd⟩
      · cases e
    · cases e
  · cases e
theorem nkey_ref {G : Gx} {lv : Addr → Prop} {φ : List Addr} {H : Hp} {x : IV} {v : V} {k : NestedKey} (e : nkey x = some k) (r : RV G lv φ H x v) : ∃ a, v = .ref a := by
  unfold nkey at e
  split at e
  · simp only [RV] at r
    obtain ⟨p, _, rfl, _⟩ := r
    exact ⟨p, rfl⟩
  · simp only [RV] at r
    obtain ⟨p, _, rfl, _⟩ := r
    exact ⟨p, rfl⟩
  · cases e
theorem kn_is {X : Cx} {G : Gx} (hK : G.K = X.K) {pins : List (Addr × Obj)} {σ : L2.St} {lv : Addr → Prop} {φ : List Addr} {H : Hp} {s : Shared} (I : Inv X pins σ H s) {x : IV} {a : Addr} {k : NestedKey} (r : RV G lv φ H x (.ref a)) (e : nkey x = some k) : (nestedKind X.prog X.w).is s.heap k a :=
  ⟨nk_is hK I r (show RelV (.ref a) (.ref a) from rfl) (nkey_ok e).1, (nkey_ok e).2⟩
/-! ### the pairs -/
inductive PrN (G : Gx) (lv : Addr → Prop) (φ : List Addr) (H : Hp) : List IV → List IV → List (NestedKey × Addr × Value) → Prop
  | nil : PrN G lv φ H [] [] []
  | cons {x y : IV} {ks vs : List IV} {k : NestedKey} {a : Addr} {v : V} {u : Value} {r : List (NestedKey × Addr × Value)} : nkey x = some k → RV G lv φ H x (.ref a) → RV G lv φ H y v → RelV v u → PrN G lv φ H ks vs r → PrN G lv φ H (x :: ks) (y :: vs) ((k, a, u) :: r)
def dgetN (k : NestedKey) : List IV → List IV → Option IV
  | x :: ks, v :: vs => if nkey x = some k then some v else dgetN k ks vs
  | _, _ => none
def dmapN (k : NestedKey) (z : IV) : List IV → List IV → List IV
  | y :: ks, v :: vs => (if nkey y = some k then z else v) :: dmapN k z ks vs
  | _, _ => []
def dhasN (k : NestedKey) (ks : List IV) : Bool := ks.any fun y => decide (nkey y = some k)
def dputN (x : IV) (k : NestedKey) (z : IV) (ks vs : List IV) : List IV × List IV := if dhasN k ks = true then (ks, dmapN k z ks vs) else (ks ++ [x], vs ++ [z])
section
variable {G : Gx} {lv : Addr → Prop} {φ : List Addr} {H : Hp}
theorem prn_of : ∀ {ks vs : List IV} {xs : List (NestedKey × Addr × Value)} {vs' : List V}, nkeys ks = some (xs.map (·.1)) → RVs G lv φ H ks (xs.map fun x => V.ref x.2.1) → RVs G lv φ H vs vs' → Vals vs' (xs.map (·.2.2)) → PrN G lv φ H ks vs xs
  | [], vs, xs, vs', e, r1, r2, rv => by
    cases xs with
    | cons x xs =>
      have e' : (some [] : Option (List NestedKey)) = some (x.1 :: xs.map (·.1)) := e
      cases e'
    | nil =>
      cases rv
      cases vs with
      | nil => exact .nil
      | cons _ _ =>
        simp only [RVs] at r2
        obtain ⟨_, _, e2, _⟩ := r2
        cases e2
  | y :: ks, vs, xs, vs', e, r1, r2, rv => by
    simp only [nkeys] at e
    split at e
    · rename_i k kk e1 e2
      cases xs with
      | nil => cases e
      | cons x xs =>
        have e' : some (k :: kk) = some (x.1 :: xs.map (·.1)) := e
        cases e'
        simp only [List.map_cons, RVs] at r1
        obtain ⟨v, r, ev, a1, a2⟩ := r1
        cases ev
        cases vs with
        | nil =>
          simp only [RVs] at r2
          subst r2
          cases rv
        | cons z vs =>
          simp only [RVs] at r2
          obtain ⟨w, r', rfl, b1, b2⟩ := r2
          cases rv with
          | cons c1 c2 => exact .cons e1 a1 b1 c1 (prn_of e2 a2 b2 c2)
    · cases e
theorem PrN.dicN : ∀ {ks vs : List IV} {xs : List (NestedKey × Addr × Value)}, PrN G lv φ H ks vs xs → nkeys ks = some (xs.map (·.1)) ∧ RVs G lv φ H ks (xs.map fun x => V.ref x.2.1) ∧ ∃ vs', RVs G lv φ H vs vs' ∧ Vals vs' (xs.map (·.2.2))
  | _, _, _, .nil => ⟨rfl, by simp only [List.map_nil, RVs], [], by simp only [RVs], .nil⟩
  | _, _, _, .cons (a := a) (v := v) e r1 r2 ru t => by
    obtain ⟨i1, i2, vs', i3, i4⟩ := t.dicN
    refine ⟨by simp only [nkeys, e, i1, List.map_cons], ?_, v :: vs', ?_, .cons ru i4⟩
    · simp only [List.map_cons, RVs]
      exact ⟨_, _, rfl, r1, i2⟩
    · simp only [RVs]
      exact ⟨_, _, rfl, r2, i3⟩
theorem PrN.len : ∀ {ks vs : List IV} {xs : List (NestedKey × Addr × Value)}, PrN G lv φ H ks vs xs → xs.length = ks.length
  | _, _, _, .nil => rfl
  | _, _, _, .cons _ _ _ _ t => by rw [List.length_cons, List.length_cons, t.len]
theorem PrN.get {k : NestedKey} : ∀ {ks vs : List IV} {xs : List (NestedKey × Addr × Value)}, PrN G lv φ H ks vs xs → (∀ z, dgetN k ks vs = some z → ∃ a v u, atKey xs k = some (a, u) ∧ RelV v u ∧ RV G lv φ H z v) ∧ (dgetN k ks vs = none → atKey xs k = none)
  | _, _, _, .nil => ⟨fun z e => (by simp only [dgetN] at e; cases e), fun _ => rfl⟩
  | _, _, _, .cons (k := k') (a := a) (v := v) (u := u) (r := r) e r1 r2 ru t => by
    obtain ⟨i1, i2⟩ := t.get (k := k)
    by_cases h : k' = k
    · subst h
      refine ⟨fun z q => ?_, fun q => ?_⟩
      · simp only [dgetN, if_pos e] at q
        cases q
        exact ⟨a, v, u, by simp [atKey, List.find?_cons], ru, r2⟩
      · simp only [dgetN, if_pos e] at q
        cases q
    · have ne : ¬ (some k' = some k) := fun z => h (Option.some.inj z)
      have hh : atKey ((k', a, u) :: r) k = atKey r k := by simp [atKey, List.find?_cons, h]
      refine ⟨fun z q => ?_, fun q => ?_⟩
      · simp only [dgetN, e, if_neg ne] at q
        rw [hh]
        exact i1 z q
      · simp only [dgetN, e, if_neg ne] at q
        rw [hh]
        exact i2 q
theorem PrN.has {k : NestedKey} : ∀ {ks vs : List IV} {xs : List (NestedKey × Addr × Value)}, PrN G lv φ H ks vs xs → dhasN k ks = (atKey xs k).isSome
  | _, _, _, .nil => rfl
  | _, _, _, .cons (k := k') (a := a) (u := u) (r := r) e _ _ _ t => by
    unfold dhasN
    rw [List.any_cons, e]
    have := t.has (k := k)
    unfold dhasN at this
    rw [this]
    by_cases h : k' = k
    · subst h
      simp [atKey, List.find?_cons]
    · have hh : atKey ((k', a, u) :: r) k = atKey r k := by simp [atKey, List.find?_cons, h]
      rw [hh]
      simp [h]
theorem PrN.app {x z : IV} {k : NestedKey} {a : Addr} {v : V} {u : Value} (ex : nkey x = some k) (rx : RV G lv φ H x (.ref a)) (rz : RV G lv φ H z v) (ru : RelV v u) : ∀ {ks vs : List IV} {xs : List (NestedKey × Addr × Value)}, PrN G lv φ H ks vs xs → PrN G lv φ H (ks ++ [x]) (vs ++ [z]) (xs ++ [(k, a, u)])
  | _, _, _, .nil => .cons ex rx rz ru .nil
  | _, _, _, .cons e r1 r2 r3 t => .cons e r1 r2 r3 (t.app ex rx rz ru)
theorem PrN.map {z : IV} {k : NestedKey} {v : V} {u : Value} (rz : RV G lv φ H z v) (ru : RelV v u) : ∀ {ks vs : List IV} {xs : List (NestedKey × Addr × Value)}, PrN G lv φ H ks vs xs → PrN G lv φ H ks (dmapN k z ks vs) (xs.map (putAt k u))
  | _, _, _, .nil => .nil
  | _, _, _, .cons (k := k') (a := a) (u := u') e r1 r2 r3 t => by
    rw [List.map_cons]
    unfold dmapN
    by_cases h : k' = k
    · subst h
      rw [if_pos e]
      have : putAt k' u (k', a, u') = (k', a, u) := by simp [putAt]
      rw [this]
      exact .cons e r1 rz ru (t.map rz ru)
    · have ne : ¬ (some k' = some k) := fun z => h (Option.some.inj z)
      rw [e, if_neg ne]
      have : putAt k u (k', a, u') = (k', a, u') := by simp [putAt, h]
      rw [this]
      exact .cons e r1 r2 r3 (t.map rz ru)
theorem PrN.put {x z : IV} {k : NestedKey} {a : Addr} {v : V} {u : Value} (ex : nkey x = some k) (rx : RV G lv φ H x (.ref a)) (rz : RV G lv φ H z v) (ru : RelV v u) {ks vs : List IV} {xs : List (NestedKey × Addr × Value)} (t : PrN G lv φ H ks vs xs) : PrN G lv φ H (dputN x k z ks vs).1 (dputN x k z ks vs).2 (storedH xs k a u) := by
  unfold dputN storedH
  rw [← t.has]
  by_cases h : dhasN k ks = true
  · rw [if_pos h, if_pos h]
    exact t.map rz ru
  · rw [if_neg h, if_neg h]
    exact t.app ex rx rz ru
theorem PrN.mono {lv' : Addr → Prop} {φ' : List Addr} {H' : Hp} (x : Ext lv φ H lv' φ' H') (ok : ∀ a, lv a → Mut (H a)) : ∀ {ks vs : List IV} {xs : List (NestedKey × Addr × Value)}, PrN G lv φ H ks vs xs → PrN G lv' φ' H' ks vs xs
  | _, _, _, .nil => .nil
  | _, _, _, .cons e r1 r2 r3 t => .cons e (RV.mono x ok _ r1) (RV.mono x ok _ r2) r3 (t.mono x ok)
theorem PrN.is {X : Cx} (hK : G.K = X.K) {pins : List (Addr × Obj)} {σ : L2.St} {s : Shared} (I : Inv X pins σ H s) : ∀ {ks vs : List IV} {xs : List (NestedKey × Addr × Value)}, PrN G lv φ H ks vs xs → ∀ x ∈ xs, (nestedKind X.prog X.w).is s.heap x.1 x.2.1
  | _, _, _, .nil => fun x hx => by cases hx
  | _, _, _, .cons e r1 _ _ t => fun x hx => by
    rcases List.mem_cons.mp hx with rfl | hx
    · exact kn_is hK I r1 e
    · exact t.is hK I x hx
theorem storedH_len (xs : List (NestedKey × Addr × Value)) (k : NestedKey) (a : Addr) (u : Value) : (storedH xs k a u).length ≤ xs.length + 1 := by
  unfold storedH
  split
  · simp
  · simp
end
/-- what stands at p -/
structure NAt (P : Program) (w : World) (H : Hp) (p : Addr) (xs : List (NestedKey × Addr × Value)) : Prop where
  at_ : ∃ (o : Obj) (es : Array DictEntry) (ep : Nat), H p = some (dno p o) ∧ o.ExactDict ∧ o.data = .dict es ep ∧ es.toList = xs.map (entryOfKey (nestedKind P w))
  nd : (xs.map (·.1)).Nodup
  sys : (p == sysModules) = false
  len : xs.length ≤ sizeLine
theorem dcn_rd {G : Gx} {lv : Addr → Prop} {φ : List Addr} {H : Hp} {ks vs : List IV} {v : V} (w : RW G lv φ H (.dcn ks vs) v) : ∃ p xs, v = .ref p ∧ NAt G.P G.w H p xs ∧ PrN G lv φ H ks vs xs := by
  obtain ⟨p, nks, ks', vs', rfl, ⟨o, es, ep, xs, e1, e2, e3, e4, e5, e6, e7, e8, e9, e10⟩, nk, r1, r2⟩ := w
  subst e6 e7
  exact ⟨p, xs, rfl, ⟨⟨o, es, ep, e1, e2, e3, e4⟩, e5, e9, e10⟩, prn_of nk r1 r2 e8⟩
theorem PrN.ro {G : Gx} {lv : Addr → Prop} {φ : List Addr} {H : Hp} {ks vs : List IV} {xs : List (NestedKey × Addr × Value)} {p : Addr} (t : PrN G lv φ H ks vs xs) (n : NAt G.P G.w H p xs) : RO G lv φ H p (.dcn ks vs) := by
  obtain ⟨i1, i2, vs', i3, i4⟩ := t.dicN
  obtain ⟨o, es, ep, e1, e2, e3, e4⟩ := n.at_
  exact ⟨_, _, vs', ⟨o, es, ep, xs, e1, e2, e3, e4, n.nd, rfl, rfl, i4, n.sys, n.len⟩, i1, i2, i3⟩
theorem ro_prn {G : Gx} {lv : Addr → Prop} {φ : List Addr} {H : Hp} {ks vs : List IV} {p : Addr} (r : RO G lv φ H p (.dcn ks vs)) : ∃ xs, NAt G.P G.w H p xs ∧ PrN G lv φ H ks vs xs := by
  obtain ⟨nks, ks', vs', ⟨o, es, ep, xs, e1, e2, e3, e4, e5, e6, e7, e8, e9, e10⟩, nk, r1, r2⟩ := r
  subst e6 e7
  exact ⟨xs, ⟨⟨o, es, ep, e1, e2, e3, e4⟩, e5, e9, e10⟩, prn_of nk r1 r2 e8⟩
section
variable {X : Cx} {G : Gx} {pins : List (Addr × Obj)} {σ : L2.St} {H : Hp} {s : Shared} {p : Addr} {xs : List (NestedKey × Addr × Value)}
theorem NAt.dict (n : NAt X.prog X.w H p xs) (I : Inv X pins σ H s) (his : ∀ x ∈ xs, (nestedKind X.prog X.w).is s.heap x.1 x.2.1) : s.heap.DictOfH (nestedKind X.prog X.w) p xs := by
  obtain ⟨o, es, ep, e1, e2, e3, e4⟩ := n.at_
  obtain ⟨e0, _, _⟩ := I.hok p _ e1
  exact ⟨o, es, ep, e0, e2, e3, e4, his, n.nd⟩
theorem NAt.ty (n : NAt X.prog X.w H p xs) (I : Inv X pins σ H s) : s.TypeIs (.ref p) "dict" ∧ ∀ b, Value.ref p = .ref b → ∃ ob, s.heap.get? b = some ob ∧ ob.dict = none := by
  obtain ⟨o, es, ep, e1, e2, e3, e4⟩ := n.at_
  obtain ⟨e0, _, _⟩ := I.hok p _ e1
  exact ⟨⟨o, e0, e2.1⟩, fun b q => by cases q; exact ⟨o, e0, e2.2.1⟩⟩
theorem nat_new {P : Program} {w : World} {h' : Heap} {H' : Hp} {o : Obj} {es : Array DictEntry} {ep : Nat} (e : H' p = some (dno p o)) (e1 : o.ExactDict) (e2 : o.data = .dict es ep) (e3 : es.toList = xs.map (entryOfKey (nestedKind P w))) (nd : (xs.map (·.1)).Nodup) (sy : (p == sysModules) = false) (l : xs.length ≤ sizeLine) : NAt P w H' p xs :=
  ⟨⟨o, es, ep, e, e1, e2, e3⟩, nd, sy, l⟩
/-- d[k] = v, by the dict's own store -/
theorem n_write {H : Hp} {h' : Heap} {t' : Nat} {a : Addr} {k : NestedKey} {u : Value} (I : Inv X pins σ H s) (n : NAt X.prog X.w H p xs) (hz : xs.length < sizeLine) (dd : h'.DictOfH (nestedKind X.prog X.w) p (storedH xs k a u)) (sb : Heap.SameBut p s.heap h') :
    ∃ o, Inv X pins σ (upd H p (dno p o)) { s with heap := h', toks := t' } ∧ NAt X.prog X.w (upd H p (dno p o)) p (storedH xs k a u) := by
  obtain ⟨o, es, ep, h1, h2, h3, h4, h5, h6⟩ := dd
  obtain ⟨o0, _, _, e0, _⟩ := n.at_
  refine ⟨o, d_write I (by rw [e0]; exact True.intro) sb ⟨o, h1⟩ (dno_ok h1), ⟨⟨o, es, ep, upd_same, h2, h3, h4⟩, h6, n.sys, ?_⟩⟩
  have := storedH_len xs k a u
  omega
end
/-! ### d[k], d.get(k, z), d[k] = v -/
section
variable {X : Cx} {G : Gx} {o i e f value : Expr} {fo fk fz : Mv} {pos apos cpos pos' : Pos}
def rKN (G : Gx) (lv : Addr → Prop) (φ : List Addr) (H : Hp) (x y : V) (ks vs : List IV) (xs : List (NestedKey × Addr × Value)) (k : NestedKey) : Prop := ∃ p a kx, x = .ref p ∧ y = .ref a ∧ NAt G.P G.w H p xs ∧ PrN G lv φ H ks vs xs ∧ RV G lv φ H kx (.ref a) ∧ nkey kx = some k
def tNGet (G : Gx) (td ty : TE) : TE := fun σ H Q => td σ H fun x H1 => ty σ H1 fun y H2 => ∃ lv φ ks vs xs k a u v, rKN G lv φ H2 x y ks vs xs k ∧ atKey xs k = some (a, u) ∧ RelV v u ∧ Q v H2
theorem pe_nget {td ty : TE} (hK : G.K = X.K) (hP : G.P = X.prog) (hw : G.w = X.w) (hu : X.A.units + 64 < cLine) (ho : PE X o td) (hi : PE X i ty) (hs : NoSl i) : PE X (.Subscript o i pos) (tNGet G td ty) := by
  refine ⟨fun pins s σ H Q I h => ?_⟩
  refine subD_of PySem.F.slot_dict_getitem.lookup hs (thn (ho.run pins s σ H _ I h) fun u s1 ⟨x, H1, I1, rx, q1⟩ => thn (hi.run pins s1 σ H1 _ I1 q1) fun iv s2 ⟨y, H2, I2, ry, lv, φ, ks, vs, xs, k, a, u0, v, ⟨p, ka, kx, ex, ey, n, t, rk, ek⟩, ea, rv, q2⟩ => ?_)
  subst ex ey
  cases rx
  cases ry
  rw [hP, hw] at n
  refine ⟨(n.ty I2).1, wpAny_getItem_heap (by show X.A.units + 1 + 8 < cLine; omega) (kn_is hK I2 rk ek) (n.dict I2 (t.is hK I2)) ea ?_⟩
  exact ⟨v, H2, I2.tok _, rv, q2⟩
def mNix (fo fk : Mv) : Mv := fun env h => (fo env h).bind fun x h1 => (fk env h1).bind fun k h2 => match view h2 x, nkey k with
  | .dcn ks vs, some kk => .ofO (dgetN kk ks vs) h2
  | _, _ => .bad
theorem s_nix (hK : G.K = X.K) (hP : G.P = X.prog) (hw : G.w = X.w) (hu : X.A.units + 64 < cLine) (ho : PE X o (rE G fo)) (hi : PE X i (rE G fk)) (hs : NoSl i) : PE X (.Subscript o i pos) (rE G (mNix fo fk)) := by
  refine PEimp (pe_nget hK hP hw hu ho hi hs) fun σ H Q ⟨O, h, φ, env, R, E, P⟩ => ?_
  refine ⟨O, h, φ, env, R, E, (P.bind (rel := relV G)).mono fun v H1 ⟨x, h1, φ1, _, g1, r1, P1⟩ => ?_⟩
  refine ⟨O, h1, φ1, env, g1.rep, E.go R g1, (P1.bind (rel := relV G)).mono fun u H2 ⟨k, h2, φ2, _, g2, r2, P2⟩ => ?_⟩
  have w := RW.view g2.rep (relV.go g1.rep g2 r1)
  cases q : view h2 x with
  | dcn ks vs =>
    rw [q] at w
    obtain ⟨p, xs, rfl, n, t⟩ := dcn_rd w
    cases qk : nkey k with
    | none =>
      simp only [q, qk] at P2
      exact P2.elim
    | some kk =>
      simp only [q, qk] at P2
      obtain ⟨a, rfl⟩ := nkey_ref qk r2
      cases qd : dgetN kk ks vs with
      | none =>
        rw [qd] at P2
        exact P2.elim
      | some z =>
        rw [qd] at P2
        obtain ⟨a', v', u', e2, ru, r3⟩ := t.get.1 z qd
        exact ⟨_, φ2, ks, vs, xs, kk, a', u', v', ⟨p, a, k, rfl, rfl, n, t, r2, qk⟩, e2, ru, P2 φ2 H2 v' (Go.refl g2.rep) r3⟩
  | _ =>
    simp only [q] at P2
    exact P2.elim
def tNGt (G : Gx) (td ty tx : TE) : TE := fun σ H Q => td σ H fun x H1 => ∃ p xs0, x = .ref p ∧ NAt G.P G.w H1 p xs0 ∧ ty σ H1 fun y H2 => tx σ H2 fun z H3 => ∃ lv φ ks vs xs k, rKN G lv φ H3 x y ks vs xs k ∧
  (∀ a u, atKey xs k = some (a, u) → ∃ v, RelV v u ∧ Q v H3) ∧ (atKey xs k = none → Q z H3)
theorem pe_ngt {td ty tx : TE} (hK : G.K = X.K) (hP : G.P = X.prog) (hw : G.w = X.w) (hu : X.A.units + 64 < cLine) (ho : PE X o td) (he : PE X e ty) (hf : PE X f tx) (m : M2 X o "get" apos e f cpos) : PE X (.Call (.Attribute o "get" apos) [e, f] [] cpos) (tNGt G td ty tx) := by
  refine ⟨fun pins s σ H Q I h => ?_⟩
  refine wpAny_Call_method m.base m.few m.line PySem.F.plainAttrs_dict PySem.F.slot_dict_get PySem.F.type_dict_get (thn (ho.run pins s σ H _ I h) fun u s1 ⟨x, H1, I1, rx, p, xs0, ex, n0, q1⟩ => ?_)
  subst ex
  obtain rfl : u = Value.ref p := rx
  rw [hP, hw] at n0
  obtain ⟨t1, t2⟩ := n0.ty I1
  refine ⟨t1, t2, ?_⟩
  rw [m.trees]
  refine Calls.callWith_builtin rfl (Calls.evalArgs_plain (Calls.spliced_cons (thn (he.run pins s1 σ H1 _ I1 q1) fun iv s2 ⟨y, H2, I2, ry, q2⟩ =>
    Calls.spliced_cons (thn (hf.run pins s2 σ H2 _ I2 q2) fun fv s3 ⟨z, H3, I3, rz, lv, φ, ks, vs, xs, k, ⟨p', a, kx, ex, ey, n, t, rk, ek⟩, q3, q4⟩ => Calls.spliced_nil ?_))))
  cases ex
  subst ey
  cases ry
  rw [hP, hw] at n
  refine call_meetsIn PySem.F.slot_dict_get (n.ty I3).1 PySem.F.entry_dict_get (PySem.F.args_dict_get_3 _ _ _) (meetsH_dict_get_default (nestedKind X.prog X.w) p a n.sys fv) ⟨by show X.A.units + 1 + 8 < cLine; omega, k, xs, kn_is hK I3 rk ek, n.dict I3 (t.is hK I3), ?_⟩
  cases ea : atKey xs k with
  | none => exact ⟨z, H3, I3.tok _, rz, q4 ea⟩
  | some au =>
    obtain ⟨a', u'⟩ := au
    obtain ⟨v, rv, q⟩ := q3 a' u' ea
    exact ⟨v, H3, I3.tok _, rv, q⟩
def mNgt (fo fk fz : Mv) : Mv := fun env h => (fo env h).bind fun x h1 => match view h1 x with
  | .dcn _ _ => (fk env h1).bind fun k h2 => (fz env h2).bind fun z h3 => match view h3 x, nkey k with
    | .dcn ks vs, some kk => .ok ((dgetN kk ks vs).getD z) h3
    | _, _ => .bad
  | _ => .bad
theorem s_ngt (hK : G.K = X.K) (hP : G.P = X.prog) (hw : G.w = X.w) (hu : X.A.units + 64 < cLine) (ho : PE X o (rE G fo)) (he : PE X e (rE G fk)) (hf : PE X f (rE G fz)) (m : M2 X o "get" apos e f cpos) : PE X (.Call (.Attribute o "get" apos) [e, f] [] cpos) (rE G (mNgt fo fk fz)) := by
  refine PEimp (pe_ngt hK hP hw hu ho he hf m) fun σ H Q ⟨O, h, φ, env, R, E, P⟩ => ?_
  refine ⟨O, h, φ, env, R, E, (P.bind (rel := relV G)).mono fun v H1 ⟨x, h1, φ1, _, g1, r1, P1⟩ => ?_⟩
  have w0 := RW.view g1.rep r1
  cases q0 : view h1 x with
  | dcn ks0 vs0 =>
    rw [q0] at w0
    obtain ⟨p0, xs0, rfl, n0, t0⟩ := dcn_rd w0
    simp only [q0] at P1
    refine ⟨p0, xs0, rfl, n0, O, h1, φ1, env, g1.rep, E.go R g1, (Post.bind (rel := relV G) P1).mono fun u H2 ⟨k, h2, φ2, _, g2, r2, P2⟩ => ?_⟩
    refine ⟨O, h2, φ2, env, g2.rep, (E.go R g1).go g1.rep g2, (P2.bind (rel := relV G)).mono fun u3 H3 ⟨z, h3, φ3, _, g3, r3, P3⟩ => ?_⟩
    have w := RW.view g3.rep (relV.go g2.rep g3 (relV.go g1.rep g2 r1))
    have r2' := relV.go g2.rep g3 r2
    cases q : view h3 x with
    | dcn ks vs =>
      rw [q] at w
      obtain ⟨p, xs, ep, n, t⟩ := dcn_rd w
      cases ep
      cases qk : nkey k with
      | none =>
        simp only [q, qk] at P3
        exact P3.elim
      | some kk =>
        simp only [q, qk] at P3
        obtain ⟨a, rfl⟩ := nkey_ref qk r2
        refine ⟨_, φ3, ks, vs, xs, kk, ⟨p0, a, k, rfl, rfl, n, t, r2', qk⟩, fun a' u' ea => ?_, fun en => ?_⟩
        · cases qd : dgetN kk ks vs with
          | none =>
            rw [t.get.2 qd] at ea
            cases ea
          | some z' =>
            obtain ⟨a2, v2, u2, e2, ru, r4⟩ := t.get.1 z' qd
            rw [e2] at ea
            cases ea
            rw [qd] at P3
            exact ⟨v2, ru, P3 φ3 H3 _ (Go.refl g3.rep) r4⟩
        · cases qd : dgetN kk ks vs with
          | some z' =>
            obtain ⟨a2, v2, u2, e2, ru, r4⟩ := t.get.1 z' qd
            rw [e2] at en
            cases en
          | none =>
            rw [qd] at P3
            exact P3 φ3 H3 _ (Go.refl g3.rep) r3
    | _ =>
      simp only [q] at P3
      exact P3.elim
  | _ =>
    simp only [q0] at P1
    exact P1.elim
def sNPut (G : Gx) (td ty tv : TE) : TS := fun D σ H => tv σ H fun v H1 => td σ H1 fun x H2 => ty σ H2 fun y H3 => ∃ lv φ ks vs xs k, rKN G lv φ H3 x y ks vs xs k ∧ xs.length < sizeLine ∧
  ∀ p a u o, x = .ref p → y = .ref a → RelV v u → NAt G.P G.w (upd H3 p (dno p o)) p (storedH xs k a u) → D.nx σ (upd H3 p (dno p o))
theorem ps_nput {td ty tv : TE} (hK : G.K = X.K) (hP : G.P = X.prog) (hw : G.w = X.w) (hu : X.A.units + 64 < cLine) (ho : PE X o td) (hi : PE X i ty) (hv : PE X value tv) (hs : swapsWith value (some (.Subscript o i pos')) pos.line X.env = pure false) :
    PS X (.Assign [.Subscript o i pos'] value pos) (sNPut G td ty tv) := by
  refine ⟨fun pins s σ H D I h => ?_⟩
  refine wpAny_Assign_Subscript (thn (hv.run pins s σ H _ I h) fun r s1 ⟨v, H1, I1, rv, q1⟩ => thn (ho.run pins s1 σ H1 _ I1 q1) fun u s2 ⟨x, H2, I2, rx, q2⟩ => thn (hi.run pins s2 σ H2 _ I2 q2) fun iv s3 ⟨y, H3, I3, ry, lv, φ, ks, vs, xs, k, ⟨p, a, kx, ex, ey, n, t, rk, ek⟩, hz, q3⟩ => ?_) hs
  subst ex ey
  cases rx
  cases ry
  have n' : NAt X.prog X.w H3 p xs := by rw [← hP, ← hw]; exact n
  refine wpAny_setItem_heap (hsz := n'.len) (by show X.A.units + 1 + 8 < cLine; omega) (kn_is hK I3 rk ek) (n'.dict I3 (t.is hK I3)) fun h' dd sb => ?_
  obtain ⟨ob, I4, n4⟩ := n_write (t' := s3.toks + (nestedKind X.prog X.w).draws k) I3 n' hz dd sb
  exact ⟨σ, _, I4, q3 p a r ob rfl rfl rv (by rw [hP, hw]; exact n4)⟩
def mNpt (fo fk fz : Mv) : Ms := fun env h => (fz env h).bind fun z h1 => (fo env h1).bind fun x h2 => (fk env h2).bind fun k h3 => match x, nkey k with
  | .ref n, some kk => match h3[n]? with
    | some (some (.dcn ks vs)) => if ks.length < sizeLine then .ok (.nx, env) (h3.set n (some (.dcn (dputN k kk z ks vs).1 (dputN k kk z ks vs).2))) else .bad
    | _ => .bad
  | _, _ => .bad
theorem nwrite {O : Addr → Prop} {h : IH} {φ : List Addr} {H : Hp} {n : Nat} {p a : Addr} {ob : Obj} {ks vs : List IV} {xs : List (NestedKey × Addr × Value)} {k z : IV} {kk : NestedKey} {v : V} {u : Value} (R : Rep G O h φ H) (hn : h[n]? = some (some (.dcn ks vs))) (ha : φ[n]? = some p) (t : PrN G (Lv O h φ) φ H ks vs xs) (qk : nkey k = some kk) (rk : RV G (Lv O h φ) φ H k (.ref a)) (rz : RV G (Lv O h φ) φ H z v) (ru : RelV v u)
    (nn : NAt G.P G.w (upd H p (dno p ob)) p (storedH xs kk a u)) : Go G O h φ H (h.set n (some (.dcn (dputN k kk z ks vs).1 (dputN k kk z ks vs).2))) φ (upd H p (dno p ob)) := by
  have xw := ext_write (ho := dno p ob) (H := H) (lv_at hn ha (O := O))
  exact R.write hn ha trivial (((t.put qk rk rz ru).mono xw R.ok).ro nn)
theorem s_npt (hK : G.K = X.K) (hP : G.P = X.prog) (hw : G.w = X.w) (hu : X.A.units + 64 < cLine) (ho : PE X o (rE G fo)) (hi : PE X i (rE G fk)) (hv : PE X value (rE G fz)) (hs : swapsWith value (some (.Subscript o i pos')) pos.line X.env = pure false := by rfl) : PS X (.Assign [.Subscript o i pos'] value pos) (rS G (mNpt fo fk fz)) := by
  refine PSimp (ps_nput hK hP hw hu ho hi hv hs) fun D σ H ⟨O, h, φ, env, R, E, P⟩ => ?_
  refine ⟨O, h, φ, env, R, E, (P.bind (rel := relV G)).mono fun v H1 ⟨z, h1, φ1, _, g1, r1, P1⟩ => ?_⟩
  refine ⟨O, h1, φ1, env, g1.rep, E.go R g1, (P1.bind (rel := relV G)).mono fun u H2 ⟨x, h2, φ2, _, g2, r2, P2⟩ => ?_⟩
  refine ⟨O, h2, φ2, env, g2.rep, (E.go R g1).go g1.rep g2, (P2.bind (rel := relV G)).mono fun u3 H3 ⟨k, h3, φ3, _, g3, r3, P3⟩ => ?_⟩
  have r1' := relV.go g2.rep g3 (relV.go g1.rep g2 r1)
  have r2' := relV.go g2.rep g3 r2
  cases x with
  | ref n =>
    simp only [relV, RV] at r2'
    obtain ⟨p, ea, ev⟩ := r2'
    subst ev
    cases qk : nkey k with
    | none =>
      simp only [qk] at P3
      exact P3.elim
    | some kk =>
      obtain ⟨a, rfl⟩ := nkey_ref qk r3
      cases qh : h3[n]? with
      | none =>
        simp only [qk, qh] at P3
        exact P3.elim
      | some oo =>
        cases oo with
        | none =>
          simp only [qk, qh] at P3
          exact P3.elim
        | some ob =>
          cases ob with
          | dcn ks vs =>
            simp only [qk, qh] at P3
            obtain ⟨xs, nn, t⟩ := ro_prn (g3.rep.obj n _ p qh ea)
            by_cases hz : ks.length < sizeLine
            · rw [if_pos hz] at P3
              refine ⟨_, φ3, ks, vs, xs, kk, ⟨p, a, k, rfl, rfl, nn, t, r3, qk⟩, by rw [t.len]; exact hz, fun p' a' u' ob' ep ea' ru n4 => ?_⟩
              cases ep
              cases ea'
              have g4 := nwrite g3.rep qh ea t qk r3 r1' ru n4
              exact P3 φ3 _ (.nx, σ) g4 ((((E.go R g1).go g1.rep g2).go g2.rep g3).go g3.rep g4)
            · rw [if_neg hz] at P3
              exact P3.elim
          | _ =>
            simp only [qk, qh] at P3
            exact P3.elim
  | _ => exact P3.elim
/-- {} that will have such keys -/
def tNNew (G : Gx) : TE := fun _ H Q => ∀ p o, H p = none → NAt G.P G.w (upd H p (dno p o)) p [] → Q (.ref p) (upd H p (dno p o))
theorem nat_empty {P : Program} {w : World} {H : Hp} {p : Addr} (hb : (p == sysModules) = false) : NAt P w (upd H p (dno p { cls := .type "dict", data := .dict #[] })) p [] :=
  ⟨⟨_, #[], 0, upd_same, ⟨rfl, rfl, rfl⟩, rfl, rfl⟩, List.nodup_nil, hb, Nat.zero_le _⟩
theorem pe_nnew (hP : G.P = X.prog) (hw : G.w = X.w) : PE X (.Dict [] [] pos) (tNNew G) := ⟨fun pins s σ H Q I h => by
  have hb : (s.heap.objs.size == sysModules) = false := beq_eq_false_iff_ne.mpr fun z => Nat.lt_irrefl _ (by have := I.big; rw [z] at this; exact this)
  exact wpAny_Dict_empty ⟨.ref s.heap.objs.size, _, I.laid (a := s.heap.objs.size) (o := dno s.heap.objs.size { cls := .type "dict", data := .dict #[] }) (t' := s.toks) (fun _ _ q => Heap.get?_push_of_some _ q) (Nat.le_refl _) (dno_ok (Heap.get?_push_size _ rfl)), rfl, h _ _ (I.hok.fresh (Nat.le_refl _)) (nat_empty hb)⟩⟩
def mNnew : Mv := fun _ h => .ok (.ref h.length) (h ++ [some (.dcn [] [])])
theorem s_nnew (hP : G.P = X.prog) (hw : G.w = X.w) : PE X (.Dict [] [] pos) (rE G mNnew) := by
  refine PEimp (pe_nnew hP hw) fun σ H Q ⟨O, h, φ, env, R, E, P⟩ => fun p o n nn => ?_
  have al := R.alloc (o := .dcn [] []) (ho := dno p o) n trivial fun lv φ' xx => PrN.nil.ro nn
  refine P (φ ++ [p]) _ _ al ?_
  simp only [relV, RV]
  refine ⟨p, ?_, rfl⟩
  rw [← R.len, List.getElem?_append_right (Nat.le_refl _)]
  simp
end
/-! ### for k in d -/
def ItN (d : Addr) (o : Obj) (es : Array DictEntry) : It :=
  ⟨fun i H => H d = some (dno d o) ∧ i < es.size, fun i H x H' => H' = H ∧ ∃ e q, es[i]? = some e ∧ e.key = .ref q ∧ x = .ref q, fun i H => H d = some (dno d o) ∧ es.size ≤ i⟩
theorem turn_N {P : Program} {w : World} {K : PySem.W.Frag} {tg : Expr} {d : Addr} {o : Obj} {es : Array DictEntry} {ep : Nat} (it : Addr) (hod : o.data = .dict es ep) (hx : o.ExactDict) (hk : ∀ (i : Nat) (e : DictEntry), es[i]? = some e → ∃ q : Addr, e.key = .ref q) : Turn P w K tg (ItN d o es) [it] it (fun i h => h.IsKeyIter it d i es.size ep) where
  mem := by simp
  obj := fun i h st b hb => by
    have e : b = it := by simpa using hb
    subst e
    obtain ⟨oi, e, c, dd⟩ := st
    exact ⟨oi, e, fun v z => by rw [dd] at z; cases z⟩
  keep := fun i h h' st k => st.at fun oi e => k it (by simp) oi e
  item := by
    intro X hP hw hK hc i pins s σ H E I hf st hg
    subst hP hw hK
    obtain ⟨hd, hi⟩ := hg
    obtain ⟨f0, f1, f2, f3, f4, f5⟩ := hf it (by simp)
    obtain ⟨hgd, _, _⟩ := I.hok d _ hd
    have hen : es[i]? = some es[i] := Array.getElem?_eq_getElem hi
    obtain ⟨q, hkey⟩ := hk i _ hen
    refine next_key_item st hgd hod rfl hen fun h' st' sb => ?_
    have I1 : Inv X pins σ H { s with heap := h' } := I.turned (t' := s.toks) (fun b ob hb e => (sb.2 b hb).trans e) f0 f1 f3 f4 f5
    obtain ⟨oi, e, c, dd⟩ := id st'
    exact ⟨_, rfl, go_of (s := { s with heap := h' }) e c dd (by decide) ⟨.ref q, H, I1, hkey, ⟨rfl, _, q, hen, hkey, rfl⟩, st', fun b hb => (hf b hb).1⟩⟩
  done := by
    intro X hP hw hK hc i pins s σ H E I hf st hg
    subst hP hw hK
    obtain ⟨hd, hi⟩ := hg
    obtain ⟨f0, f1, f2, f3, f4, f5⟩ := hf it (by simp)
    obtain ⟨hgd, _, _⟩ := I.hok d _ hd
    exact next_key_end (I.ok.hd hc) st hgd hod rfl hi fun h' eb => ⟨rfl, I.turned (t' := s.toks) (fun b ob hb e => eb b ob hb e) f0 f1 f3 f4 f5⟩
  self := fun A i s Q E st h => by
    refine wpAny_pyIter_slot st.typeIs F.slot_dict_keyiterator_iter (wpAny_call_entry F.slot_dict_keyiterator_iter st.typeIs F.entry_dict_keyiterator_iter ?_ (F.args_dict_keyiterator_iter_1 _))
    show wpAny _ _ (ret (.ref it)) _ _ s
    exact wpAny_pure ⟨_, rfl, "dict_keyiterator", _, st.typeIs, F.slot_dict_keyiterator_next.lookup, h⟩
def iN (td : TE) : TI := fun σ H R => td σ H fun x H1 => ∃ d o es ep, x = .ref d ∧ H1 d = some (dno d o) ∧ o.ExactDict ∧ o.data = .dict es ep ∧ (d == sysModules) = false ∧ (∀ (i : Nat) (e : DictEntry), es[i]? = some e → ∃ q : Addr, e.key = .ref q) ∧ R (ItN d o es) H1
theorem pi_N {X : Cx} {tg e : Expr} {td : TE} (he : PE X e td) : PI X tg e (iN td) := by
  refine ⟨fun pins s σ H R I h => ?_⟩
  refine thn (he.run pins s σ H _ I h) fun u s1 ⟨x, H1, I1, rx, d, o, es, ep, ex, hd, hx, hdt, hs, hk, q⟩ => ?_
  subst ex
  obtain rfl : u = Value.ref d := rx
  obtain ⟨hgd, _, _⟩ := I1.hok d _ hd
  refine iter_keys hs hgd hx hdt (pi_one (tk := s1.toks) I1 _ (turn_N _ hdt hx hk) ⟨_, Heap.get?_push_size _ rfl, rfl, ?_⟩ q)
  rfl
def mNks (f : Mv) : Mi := fun env h => (f env h).bind fun x h1 => match x with
  | .dcn ks _ => .ok ks h1
  | _ => .bad
theorem PrN.at_ {G : Gx} {lv : Addr → Prop} {φ : List Addr} {H : Hp} {ks vs : List IV} {xs : List (NestedKey × Addr × Value)} (t : PrN G lv φ H ks vs xs) : ∀ (i : Nat) (x : NestedKey × Addr × Value), xs[i]? = some x → ∃ y, ks[i]? = some y ∧ RV G lv φ H y (.ref x.2.1) := by
  induction t with
  | nil => intro i x e; simp at e
  | cons _ r1 _ _ _ ih =>
    intro i x e
    cases i with
    | zero =>
      simp at e
      subst e
      exact ⟨_, by simp, r1⟩
    | succ i =>
      obtain ⟨y, e1, e2⟩ := ih i x (by simpa using e)
      exact ⟨y, by simpa using e1, e2⟩
theorem i_N {X : Cx} {G : Gx} {tg e : Expr} {f : Mv} (he : PE X e (rE G f)) : PI X tg e (rI G (mNks f)) := by
  refine PIimp (pi_N he) fun σ H R ⟨O, h, φ, env, Rp, E, P⟩ => ?_
  refine ⟨O, h, φ, env, Rp, E, (P.bind (rel := relV G)).mono fun v H1 ⟨x, h1, φ1, _, g1, r1, P1⟩ => ?_⟩
  cases x with
  | dcn ks vs =>
    have nl : ∃ p, v = .ref p ∧ ¬ Lv O h1 φ1 p := by
      simp only [relV, RV] at r1
      obtain ⟨p, _, _, _, e, n, _⟩ := r1
      exact ⟨p, e, n⟩
    obtain ⟨p, xs, rfl, n, t⟩ := dcn_rd (RV.rw r1)
    obtain ⟨p', ep', nl⟩ := nl
    cases ep'
    obtain ⟨o, es, ep, e1, e2, e3, e4⟩ := n.at_
    have hsz : es.size = xs.length := by rw [← Array.length_toList, e4, List.length_map]
    refine ⟨p, o, es, ep, rfl, e1, e2, e3, n.sys, fun i en hen => ?_, P1 φ1 H1 _ (Go.refl g1.rep) fun lv' φ' H' x ok' => ?_⟩
    · have q := entry_at e4 i
      rw [hen] at q
      obtain ⟨y, _, ey⟩ := Option.map_eq_some_iff.mp q.symm
      exact ⟨y.2.1, by rw [← ey]; rfl⟩
    · have hq : H' p = some (dno p o) := x.keep _ _ e1 nl
      rw [← t.len, ← hsz]
      refine ⟨fun i hi => ⟨hq, hi⟩, ⟨hq, Nat.le_refl _⟩, fun i v H'' hi y => ?_⟩
      obtain ⟨rfl, en, q, hen, hkey, rfl⟩ := y
      have q' := entry_at e4 i
      rw [hen] at q'
      obtain ⟨z, ez, ey⟩ := Option.map_eq_some_iff.mp q'.symm
      obtain ⟨y, e5, e6⟩ := t.at_ _ _ ez
      have : q = z.2.1 := by
        rw [← ey] at hkey
        have : Value.ref z.2.1 = Value.ref q := hkey
        cases this
        rfl
      subst this
      exact ⟨Same.refl _, y, e5, RV.mono x g1.rep.ok y e6⟩
  | _ => exact P1.elim
end Iv

/-! IvS: {k: v for a in x for b in y}, the keys tuples (printed by gen_dk2.py). -/
namespace Iv
open PySem PySem.Spec PyProof.Rows L2

theorem dkTurn_out (kx vx t0 i0 t1 i1 : Expr) (ifs0 ifs1 : List Expr) (scope : Scope) (pos : Pos) (it : Value) (D : Addr) (env : PySem.Env) :
    compTurn (.DictComp kx vx [⟨t0, i0, ifs0, 0⟩, ⟨t1, i1, ifs1, 0⟩] scope pos) 0 it (.ref D) env = (do
      standAt i0.pos
      match ← pyNext it with
      | none => pure (.done .next)
      | some v =>
        letOwnedTupleGo t0 it v
        assign t0 env v
        let mut ok := true
        for c in ifs0 do
          if ok then ok ← isTrue c env (eval c env)
        if ok then
          let x ← eval i1 env
          standAt i1.pos
          let x ← foldedSetIterable i1 env x
          let _ ← runOwn (.compStart (.DictComp kx vx [⟨t0, i0, ifs0, 0⟩, ⟨t1, i1, ifs1, 0⟩] scope pos) 1 (← holding [x] (pyIter x)) (.ref D) env) env
        again (.compLoop (.DictComp kx vx [⟨t0, i0, ifs0, 0⟩, ⟨t1, i1, ifs1, 0⟩] scope pos) 0 it (.ref D) env)) := by rfl
theorem dkTurn_in (kx vx t0 i0 t1 i1 : Expr) (ifs0 ifs1 : List Expr) (scope : Scope) (pos : Pos) (it : Value) (D : Addr) (env : PySem.Env) :
    compTurn (.DictComp kx vx [⟨t0, i0, ifs0, 0⟩, ⟨t1, i1, ifs1, 0⟩] scope pos) 1 it (.ref D) env = (do
      standAt i1.pos
      match ← pyNext it with
      | none => pure (.done .next)
      | some v =>
        letOwnedTupleGo t1 it v
        assign t1 env v
        let mut ok := true
        for c in ifs1 do
          if ok then ok ← isTrue c env (eval c env)
        if ok then
          (do
            let k ← eval kx env
            let v ← holding [k] (eval vx env)
            standAt { kx.pos with endLine := vx.pos.endLine, endCol := vx.pos.endCol }
            holding [k, v] (dictSet D k v))
        again (.compLoop (.DictComp kx vx [⟨t0, i0, ifs0, 0⟩, ⟨t1, i1, ifs1, 0⟩] scope pos) 1 it (.ref D) env)) := by rfl

section
variable {prog : Program} {w : World} {A : Around} {R : Result → Shared → Prop} {s : Shared} {kx vx t0 i0 t1 i1 : Expr} {ifs0 ifs1 : List Expr} {scope : Scope} {pos : Pos} {it : Value} {D : Addr} {env : PySem.Env}
/-- the loop of the first clause -/
theorem dkLoop_out (hs : ∀ x, foldedSetIterable i1 env x = pure x) (I : Nat → Shared → Prop)
    (turn : ∀ n s, I n s → wpAny (model prog w) A (pyNext it) (fun r s₁ => match r with
      | none => R (.ok .next) s₁
      | some v => wpAny (model prog w) A (letOwnedTupleGo t0 it v) (fun _ s₁' => wpAny (model prog w) A (assign t0 env v) (fun _ s₂ =>
          wpAny (model prog w) A (forIn ifs0 true fun c r => if r = true then do let ok ← isTrue c env (eval c env); pure (ForInStep.yield ok) else pure (ForInStep.yield r)) (fun ok s₃ =>
            if ok = true then wpAny (model prog w) A (eval i1 env) (fun x s₄ => wpAny (model prog w) A (pyIter x) (fun it1 s₅ =>
              codeAny (model prog w) A (.compStart (.DictComp kx vx [⟨t0, i0, ifs0, 0⟩, ⟨t1, i1, ifs1, 0⟩] scope pos) 1 it1 (.ref D) env) (fun r s' => match r with
                | .ok _ => ∃ m, m < n ∧ I m s'
                | .error _ => False) s₅) (notedBy (model prog w) A env fun e s' => R (.error e) s') s₄) (notedBy (model prog w) A env fun e s' => R (.error e) s') s₃
            else ∃ m, m < n ∧ I m s₃) (notedBy (model prog w) A env fun e s' => R (.error e) s') s₂) (notedBy (model prog w) A env fun e s' => R (.error e) s') s₁') (notedBy (model prog w) A env fun e s' => R (.error e) s') s₁) (notedBy (model prog w) A env fun e s' => R (.error e) s') s)
    (n : Nat) (h : I n s) :
    codeAny (model prog w) A (.compLoop (.DictComp kx vx [⟨t0, i0, ifs0, 0⟩, ⟨t1, i1, ifs1, 0⟩] scope pos) 0 it (.ref D) env) R s := by
  refine codeAny_loop rfl I (fun n s hI => ?_) n h
  show wpAny _ A ((compTurn (.DictComp kx vx [⟨t0, i0, ifs0, 0⟩, ⟨t1, i1, ifs1, 0⟩] scope pos) 0 it (.ref D) env).onRaise (fun x => do noteFrame x env; theTreesLotGoes x)) _ _ s
  refine wpAny_noted ?_
  rw [dkTurn_out]
  refine wpAny_bind (wpAny_standAt (wpAny_bind (wpAny_mono (turn n s hI) (fun r s₁ h₁ => ?_) fun _ _ h' => h')))
  cases r with
  | none => exact wpAny_pure h₁
  | some v =>
    refine wpAny_bind (wpAny_mono h₁ (fun _ s₁' h₁' => ?_) fun _ _ h' => h')
    refine wpAny_bind (wpAny_mono h₁' (fun _ s₂ h₂ => wpAny_bind (wpAny_mono h₂ (fun ok s₃ h₃ => ?_) fun _ _ h' => h')) fun _ _ h' => h')
    cases ok with
    | false => exact wpAny_pure ⟨rfl, h₃⟩
    | true =>
      refine wpAny_bind (wpAny_mono h₃ (fun x s₄ h₄ => ?_) fun _ _ h' => h')
      refine wpAny_bind (wpAny_standAt (wpAny_bind (wpAny_of_eq (hs x) (wpAny_bind (wpAny_holding (wpAny_mono h₄ (fun it1 s₅ h₅ => ?_) fun _ _ h' => h'))))))
      refine wpAny_bind (wpAny_runOwn ?_)
      rw [Around.mark_none]
      refine codeAny_mono h₅ fun r s' hr => ?_
      cases r with
      | ok f =>
        first
          | exact wpAny_pure ⟨rfl, hr⟩
          | exact wpAny_bind (wpAny_pure (wpAny_pure ⟨rfl, hr⟩))
      | error e => exact hr.elim
/-- the loop of the second -/
theorem dkLoop_in (I : Nat → Shared → Prop)
    (turn : ∀ n s, I n s → wpAny (model prog w) A (pyNext it) (fun r s₁ => match r with
      | none => R (.ok .next) s₁
      | some v => wpAny (model prog w) A (letOwnedTupleGo t1 it v) (fun _ s₁' => wpAny (model prog w) A (assign t1 env v) (fun _ s₂ =>
          wpAny (model prog w) A (forIn ifs1 true fun c r => if r = true then do let ok ← isTrue c env (eval c env); pure (ForInStep.yield ok) else pure (ForInStep.yield r)) (fun ok s₃ =>
            if ok = true then wpAny (model prog w) A (eval kx env) (fun kv s₄ => wpAny (model prog w) A (eval vx env) (fun vv s₅ =>
              wpAny (model prog w) A (dictSet D kv vv) (fun _ s₆ => ∃ m, m < n ∧ I m s₆) (notedBy (model prog w) A env fun e s' => R (.error e) s') s₅) (notedBy (model prog w) A env fun e s' => R (.error e) s') s₄) (notedBy (model prog w) A env fun e s' => R (.error e) s') s₃
            else ∃ m, m < n ∧ I m s₃) (notedBy (model prog w) A env fun e s' => R (.error e) s') s₂) (notedBy (model prog w) A env fun e s' => R (.error e) s') s₁') (notedBy (model prog w) A env fun e s' => R (.error e) s') s₁) (notedBy (model prog w) A env fun e s' => R (.error e) s') s)
    (n : Nat) (h : I n s) :
    codeAny (model prog w) A (.compLoop (.DictComp kx vx [⟨t0, i0, ifs0, 0⟩, ⟨t1, i1, ifs1, 0⟩] scope pos) 1 it (.ref D) env) R s := by
  refine codeAny_loop rfl I (fun n s hI => ?_) n h
  show wpAny _ A ((compTurn (.DictComp kx vx [⟨t0, i0, ifs0, 0⟩, ⟨t1, i1, ifs1, 0⟩] scope pos) 1 it (.ref D) env).onRaise (fun x => do noteFrame x env; theTreesLotGoes x)) _ _ s
  refine wpAny_noted ?_
  rw [dkTurn_in]
  refine wpAny_bind (wpAny_standAt (wpAny_bind (wpAny_mono (turn n s hI) (fun r s₁ h₁ => ?_) fun _ _ h' => h')))
  cases r with
  | none => exact wpAny_pure h₁
  | some v =>
    refine wpAny_bind (wpAny_mono h₁ (fun _ s₁' h₁' => ?_) fun _ _ h' => h')
    refine wpAny_bind (wpAny_mono h₁' (fun _ s₂ h₂ => wpAny_bind (wpAny_mono h₂ (fun ok s₃ h₃ => ?_) fun _ _ h' => h')) fun _ _ h' => h')
    cases ok with
    | false => exact wpAny_pure ⟨rfl, h₃⟩
    | true =>
      exact wpAny_bind (wpAny_bind (wpAny_mono h₃ (fun kv s₄ h₄ => wpAny_bind (wpAny_holding (wpAny_mono h₄ (fun vv s₅ h₅ => wpAny_bind (wpAny_standAt (wpAny_holding (wpAny_mono h₅ (fun _ s₆ h₆ => wpAny_pure ⟨rfl, h₆⟩) fun _ _ h' => h')))) fun _ _ h' => h'))) fun _ _ h' => h'))
/-- the second clause's start -/
theorem dkStart_ok (h0 : codeAny (model prog w) A (.compLoop (.DictComp kx vx [⟨t0, i0, ifs0, 0⟩, ⟨t1, i1, ifs1, 0⟩] scope pos) 1 it (.ref D) env) R s)
    (h : wpAny (model prog w) A (pyIter it) (fun it' s' => codeAny (model prog w) A (.compLoop (.DictComp kx vx [⟨t0, i0, ifs0, 0⟩, ⟨t1, i1, ifs1, 0⟩] scope pos) 1 it' (.ref D) env) R s')
      (notedBy (model prog w) A env fun x s' => R (.error x) s') s) :
    codeAny (model prog w) A (.compStart (.DictComp kx vx [⟨t0, i0, ifs0, 0⟩, ⟨t1, i1, ifs1, 0⟩] scope pos) 1 it (.ref D) env) R s := by
  refine codeAny_of_tree ?_
  show wpAny _ _ ((compStart (.DictComp kx vx [⟨t0, i0, ifs0, 0⟩, ⟨t1, i1, ifs1, 0⟩] scope pos) 1 it (.ref D) env).onRaise (fun x => do noteFrame x env; standAt theWindowsPlace)) _ _ s
  refine wpAny_notedAt ?_
  unfold compStart
  show wpAny _ _ (ask >>= _) _ _ s
  refine wpAny_bind (wpAny_askSetting (wpAny_ite ?_))
  split
  · first
      | exact wpAny_bind (wpAny_pure (wpAny_pure (And.intro rfl h0)))
      | exact wpAny_pure (And.intro rfl h0)
  · first
      | exact wpAny_bind (wpAny_rule (wpAny_bind (wpAny_standAt (wpAny_bind (wpAny_mono h (fun it' s' h' => wpAny_pure (And.intro rfl h')) fun _ _ x => x)))))
      | (refine wpAny_bind (wpAny_rule ?_); show wpAny _ _ (standAt i1.pos >>= _) _ _ s; exact wpAny_bind (wpAny_standAt (wpAny_bind (wpAny_mono h (fun it' s' h' => wpAny_pure (And.intro rfl h')) fun _ _ x => x))))
end


/-- behind the first clause's store and tests the second source's own loop, from which Nx is reached. vs: the block's names; vs1: those of the second target -/
def tDk2 (G : Gx) (wi : TI) (g : TG) (tt : TT) (wi1 : TI) (g1 : TG) (tt1 : TT) (tk tv : TE) (vs vs1 : List Nat) : TE := fun σ H Q => wi σ H fun J H1 => ∀ D o, H1 D = none → NAt G.P G.w (upd H1 D (dno D o)) D [] → ∃ W : Nat → Nat → Hp → Prop, (∃ m, W 0 m (upd H1 D (dno D o))) ∧ ∀ i m H, W i m H →
  (J.stop i H ∧ Q (.ref D) H) ∨ (J.go i H ∧ ∃ Nx : Hp → Prop, (∀ H', Nx H' → ∃ m', m' < m ∧ W (i + 1) m' H') ∧ ∀ x H', J.yld i H x H' → g x (wipe σ vs) H' fun σ2 H2 => wipe σ2 vs = wipe σ vs ∧ tt σ2 H2 fun b H3 =>
    if b = true then wi1 σ2 H3 fun J1 H4 => ∃ W1 : Nat → Nat → Hp → Prop, (∃ m, W1 0 m H4) ∧ ∀ j k H, W1 j k H →
      (J1.stop j H ∧ Nx H) ∨ (J1.go j H ∧ ∃ Nx1 : Hp → Prop, (∀ H', Nx1 H' → ∃ k', k' < k ∧ W1 (j + 1) k' H') ∧ ∀ x H', J1.yld j H x H' → g1 x (wipe σ2 vs1) H' fun σ3 H5 => wipe σ3 vs1 = wipe σ2 vs1 ∧ tt1 σ3 H5 fun b H6 =>
        if b = true then tk σ3 H6 fun y H7 => tv σ3 H7 fun z H8 => ∃ lv φ ks vs xs k, rKN G lv φ H8 (.ref D) y ks vs xs k ∧ xs.length < sizeLine ∧
          ∀ a u o, y = .ref a → RelV z u → NAt G.P G.w (upd H8 D (dno D o)) D (storedH xs k a u) → Nx1 (upd H8 D (dno D o)) else Nx1 H6)
    else Nx H3)
section
variable {X : Cx} {G : Gx}

theorem dk2_core {pins : List (Addr × Obj)} {s : Shared} {σ : L2.St} {H : Hp} {Q : VK} {kx vx tg iter tg1 iter1 : Expr} {ifs ifs1 : List Expr} {scope : Scope} {own : List (Str × Nat)} {vs1 : List Nat} {pos pos' : Pos} {wi wi1 : TI} {g g1 : TG} {tt tt1 : TT} {tk tv : TE} {use : Option (Value → Sem Unit)} {Qf : Value → Shared → Prop}
    (hK : G.K = X.K) (hP : G.P = X.prog) (hw : G.w = X.w) (hu : X.A.units + 64 < cLine) (hc : X.calm = true) (hN : X.N.Nodup) (I : Inv X pins σ H s) (hi : PI X tg iter wi) (ok : BlkOk X.N X.env.scope scope own) (hv : ∀ i ∈ vs1, i ∈ own.map (·.2))
    (hg : ∀ (s : Shared) (H : Hp) (C : Addr) (cl : List (Str × Addr)) (fp : List Addr), PG (X.blk s H scope (compEnvC scope cl C X.env) fp) tg g) (ht : ∀ (s : Shared) (H : Hp) (C : Addr) (cl : List (Str × Addr)) (fp : List Addr), PTs (X.blk s H scope (compEnvC scope cl C X.env) fp) ifs tt)
    (hk : ∀ (s : Shared) (H : Hp) (C : Addr) (cl : List (Str × Addr)) (fp : List Addr), PE (X.blk s H scope (compEnvC scope cl C X.env) fp) kx tk)
    (he : ∀ (s : Shared) (H : Hp) (C : Addr) (cl : List (Str × Addr)) (fp : List Addr), PE (X.blk s H scope (compEnvC scope cl C X.env) fp) vx tv) (hs : ∀ x, foldedSetIterable iter X.env x = pure x)
    (hi1 : ∀ (s : Shared) (H : Hp) (C : Addr) (cl : List (Str × Addr)) (fp : List Addr), PI (X.blk s H scope (compEnvC scope cl C X.env) fp) tg1 iter1 wi1)
    (hg1 : ∀ (s : Shared) (H : Hp) (C : Addr) (cl : List (Str × Addr)) (fp : List Addr), PG (X.blk s H scope (compEnvC scope cl C X.env) fp) tg1 g1)
    (ht1 : ∀ (s : Shared) (H : Hp) (C : Addr) (cl : List (Str × Addr)) (fp : List Addr), PTs (X.blk s H scope (compEnvC scope cl C X.env) fp) ifs1 tt1)
    (hs1 : ∀ env x, foldedSetIterable iter1 env x = pure x)
    (h : tDk2 G wi g tt wi1 g1 tt1 tk tv (own.map (·.2)) vs1 σ H Q)
    (hRR : ∀ D C s' m H', Inv X pins σ H' s' → Q (.ref D) H' → s'.heap.Ns C m → FpOk X pins H' C → compPost (model X.prog X.w) X.A X.xe use Qf (.ref D) C (.ok .next) s') :
    wpAny (model X.prog X.w) X.A (comprehension (.DictComp kx vx [⟨tg, iter, ifs, 0⟩, ⟨tg1, iter1, ifs1, 0⟩] scope pos) scope X.env pos' newDict false (eval iter X.env) use) Qf X.xe s := by
  have hfree : ∀ y ∈ scope.names, y.2 = .free → ∃ c, X.env.cells.lookup y.1 = some c := fun y hy e => by
    rcases ok.free y hy e with k | k
    · exact I.ok.has _ (.inl k)
    · exact I.ok.has _ (.inr k)
  refine wpAny_comprehension_free (use := use) rfl hs (closure_ok hfree) ok.kind (fun y hy e => by rw [ok.uniq y hy, e])
    (thn (hi.run pins s σ H _ I h) fun xv s1 hx => thn hx fun itv s2 h2 => ?_)
  obtain ⟨it, fp, tn, J, H2, e, I2, T, st2, f2, q⟩ := h2
  subst e
  refine wpAny_newObj_type (newEnv_comp ?_)
  generalize hD : s2.heap.objs.size = D
  have hDn : H2 D = none := I2.hok.fresh (Nat.le_of_eq hD)
  obtain ⟨W, ⟨m0, w0⟩, turn⟩ := q D _ hDn (by rw [hP, hw]; exact nat_empty (beq_eq_false_iff_ne.mpr fun z => Nat.lt_irrefl _ (by have := I2.big; rw [hD, z] at this; exact this)))
  -- the new list
  generalize hs3 : ({ s2 with heap := s2.heap.push { cls := .type "dict", data := .dict #[] } } : Shared) = s3
  have I3 : Inv X pins σ (upd H2 D (dno D { cls := .type "dict", data := .dict #[] })) s3 := by
    rw [← hs3]
    refine I2.laid (t' := s2.toks) (fun b o e => Heap.get?_push_of_some _ e) (Nat.le_of_eq hD) (dno_ok ?_)
    rw [← hD]
    exact Heap.get?_push_size _ rfl
  have h3 : s3.heap = s2.heap.push { cls := .type "dict", data := .dict #[] } := by rw [← hs3]
  have sz : ∀ b ∈ fp, b < s2.heap.objs.size := fun b hb => by
    obtain ⟨o, e, _⟩ := T.obj _ _ st2 b hb
    exact Heap.lt_size e
  have f3 : ∀ b ∈ fp, FpOk X pins (upd H2 D (dno D { cls := .type "dict", data := .dict #[] })) b ∧ b < s3.heap.objs.size := fun b hb => by
    have hlt := sz b hb
    refine ⟨⟨?_, (f2 b hb).2⟩, by rw [h3, Heap.size_push]; exact Nat.lt_succ_of_lt hlt⟩
    rw [upd_ne (by rw [← hD]; exact Nat.ne_of_lt hlt)]
    exact (f2 b hb).1
  have st3 : tn 0 s3.heap := T.keep _ _ _ st2 fun b _ o e => by rw [h3]; exact Heap.get?_push_of_some _ e
  have I4 := block_start I3 ok hN f3
  have pg := hg s3 (upd H2 D (dno D { cls := .type "dict", data := .dict #[] })) s3.heap.objs.size (cellsFrom (s3.heap.objs.size + 1) scope.names (cloFrom X.env.cells scope.names [])) fp
  have pt := ht s3 (upd H2 D (dno D { cls := .type "dict", data := .dict #[] })) s3.heap.objs.size (cellsFrom (s3.heap.objs.size + 1) scope.names (cloFrom X.env.cells scope.names [])) fp
  have pk := hk s3 (upd H2 D (dno D { cls := .type "dict", data := .dict #[] })) s3.heap.objs.size (cellsFrom (s3.heap.objs.size + 1) scope.names (cloFrom X.env.cells scope.names [])) fp
  have pe := he s3 (upd H2 D (dno D { cls := .type "dict", data := .dict #[] })) s3.heap.objs.size (cellsFrom (s3.heap.objs.size + 1) scope.names (cloFrom X.env.cells scope.names [])) fp
  have pi1 := hi1 s3 (upd H2 D (dno D { cls := .type "dict", data := .dict #[] })) s3.heap.objs.size (cellsFrom (s3.heap.objs.size + 1) scope.names (cloFrom X.env.cells scope.names [])) fp
  have pg1 := hg1 s3 (upd H2 D (dno D { cls := .type "dict", data := .dict #[] })) s3.heap.objs.size (cellsFrom (s3.heap.objs.size + 1) scope.names (cloFrom X.env.cells scope.names [])) fp
  have pt1 := ht1 s3 (upd H2 D (dno D { cls := .type "dict", data := .dict #[] })) s3.heap.objs.size (cellsFrom (s3.heap.objs.size + 1) scope.names (cloFrom X.env.cells scope.names [])) fp
  show codeAny _ _ (.compStart (.DictComp kx vx [⟨tg, iter, ifs, 0⟩, ⟨tg1, iter1, ifs1, 0⟩] scope pos) 0 (.ref it) (.ref D) (compEnvC scope (cellsFrom (s3.heap.objs.size + 1) scope.names (cloFrom X.env.cells scope.names [])) s3.heap.objs.size X.env)) (compPost (model X.prog X.w) X.A X.xe use Qf (.ref D) s3.heap.objs.size) { s3 with heap := pushCells (s3.heap.push { cls := .type "dict", data := .dict #[] }) scope.names }
  have nfp : ∀ b ∈ fp, (upd H2 D (dno D { cls := .type "dict", data := .dict #[] })) b = none := fun b hb => (f3 b hb).1.1
  generalize hce : compEnvC scope (cellsFrom (s3.heap.objs.size + 1) scope.names (cloFrom X.env.cells scope.names [])) s3.heap.objs.size X.env = ce at I4 pg pt pk pe pi1 pg1 pt1 ⊢
  have cL : ce.locals = s3.heap.objs.size := by subst hce; rfl
  generalize hH3 : upd H2 D (dno D { cls := .type "dict", data := .dict #[] }) = H3 at I3 I4 pg pt pk pe pi1 pg1 pt1 w0 nfp f3
  generalize hs4 : ({ s3 with heap := pushCells (s3.heap.push { cls := .type "dict", data := .dict #[] }) scope.names } : Shared) = s4 at I4 ⊢
  have st4 : tn 0 s4.heap := T.keep _ _ _ st3 fun b _ o e => by rw [← hs4]; exact pushCells_keeps _ _ _ _ (Heap.get?_push_of_some _ e)
  have stat : ∀ {σ' : L2.St} {H' : Hp} {s' : Shared}, Inv (X.blk s3 H3 scope ce fp) [] σ' H' s' → (∀ b ∈ fp, H' b = none) → ∀ b ∈ fp, FpOk (X.blk s3 H3 scope ce fp) [] H' b := fun {σ' H' s'} I' hn b hb =>
    ⟨hn b hb, (I'.ok.exf b hb).1, I'.ok.exfs b hb, .inl hb, fun x c e => (I'.ok.exf b hb).2 x c e, fun p hp => absurd (show p ∈ ([] : List (Addr × Obj)) ++ [] from hp) (by simp)⟩
  have loop : codeAny (model X.prog X.w) X.A (.compLoop (.DictComp kx vx [⟨tg, iter, ifs, 0⟩, ⟨tg1, iter1, ifs1, 0⟩] scope pos) 0 (.ref it) (.ref D) ce) (compPost (model X.prog X.w) X.A X.xe use Qf (.ref D) s3.heap.objs.size) s4 := by
    refine dkLoop_out (hs1 ce) (fun n s' => ∃ i H', Inv (X.blk s3 H3 scope ce fp) [] (wipe σ (own.map (·.2))) H' s' ∧ tn i s'.heap ∧ (∀ b ∈ fp, H' b = none) ∧ W i n H') ?_ m0 ⟨0, H3, I4, st4, nfp, w0⟩
    rintro n s5 ⟨i, H5, I5, st5, n5, w5⟩
    rcases turn i n H5 w5 with ⟨stop, qq⟩ | ⟨go, Nx, hNx, step⟩
    · have td := T.done (X.blk s3 H3 scope ce fp) rfl rfl rfl hc i [] s5 _ H5 (fun _ _ => False) I5 (stat I5 n5) st5 stop
      refine thnF td fun r s6 ⟨hr, I6⟩ => ?_
      subst hr
      -- back in the def's context
      have I7 : Inv X pins σ H5 s6 := I3.call' (ch := fp) I6.os I6.base I6.hok I6.bare fun b hb => ⟨(f3 b hb).1.2.2.2.1, (f3 b hb).1.2.1, (f3 b hb).1.2.2.2.2.1, (f3 b hb).1.2.2.2.2.2⟩
      have nC : H5 s3.heap.objs.size = none := by
        have z : H5 ce.locals = none := I6.free
        rw [cL] at z
        exact z
      obtain ⟨m, hn, _⟩ := I6.loc
      have hn : s6.heap.Ns ce.locals m := hn
      rw [cL] at hn
      exact hRR D s3.heap.objs.size s6 m H5 I7 qq hn (I3.fpOk (Nat.le_refl _) nC)
    · have ti := T.item (X.blk s3 H3 scope ce fp) rfl rfl rfl hc i [] s5 _ H5 (fun _ _ => False) I5 (stat I5 n5) st5 go
      refine thnF ti fun r s6 ⟨u, hr, h6⟩ => ?_
      subst hr
      refine thnF h6 fun _ s7 ⟨x, H7, I7, r7, y7, st7, n7⟩ => ?_
      have I7' := I7.pinned (stat I7 n7) (T.obj _ _ st7)
      refine thnF (pg.run _ s7 _ H7 x u _ I7' r7 (step x H7 y7)) fun _ s8 ⟨σ8, H8, I8, hw8, q8⟩ => ?_
      refine thnF (pt.run _ s8 σ8 H8 _ I8 q8) fun b s9 ⟨H9, I9, q9⟩ => ?_
      -- the turn's end, from any slots that know what the block knew at its start
      have fin : ∀ {σ9 : L2.St} {s' : Shared} {H' : Hp}, Inv (X.blk s3 H3 scope ce fp) ([] ++ pinsAt fp s7.heap) σ9 H' s' → (wipe σ (own.map (·.2))).length = σ9.length → (∀ (j : Nat) v, (wipe σ (own.map (·.2)))[j]? = some (some v) → σ9[j]? = some (some v)) → Nx H' →
          ∃ m, m < n ∧ ∃ i H', Inv (X.blk s3 H3 scope ce fp) [] (wipe σ (own.map (·.2))) H' s' ∧ tn i s'.heap ∧ (∀ b ∈ fp, H' b = none) ∧ W i m H' := fun {σ9 s' H'} I' hl hk nx => by
        obtain ⟨m', hm, w'⟩ := hNx H' nx
        have pin' : ∀ b ∈ fp, ∀ o, s7.heap.get? b = some o → s'.heap.get? b = some o ∧ H' b = none := fun b hb o e =>
          let z := I'.pin (b, o) (List.mem_append_right _ (List.mem_append_right _ (mem_pinsAt hb e)))
          ⟨z.1, z.2.1⟩
        refine ⟨m', hm, i + 1, H', (I'.unpinned (pins := [])).weak hl hk, T.keep _ _ _ st7 fun b hb o e => (pin' b hb o e).1, fun b hb => ?_, w'⟩
        obtain ⟨o, e, _⟩ := T.obj _ _ st7 b hb
        exact (pin' b hb o e).2
      have hl8 : (wipe σ (own.map (·.2))).length = σ8.length := by rw [← hw8, wipe_length]
      have hk8 : ∀ (j : Nat) v, (wipe σ (own.map (·.2)))[j]? = some (some v) → σ8[j]? = some (some v) := fun j v e => by
        rw [← hw8] at e
        exact (wipe_some e).1
      have hk9 : ∀ (j : Nat) v, (wipe σ (own.map (·.2)))[j]? = some (some v) → (wipe σ8 vs1)[j]? = some (some v) := fun j v e => by
        rw [← hw8] at e
        obtain ⟨e1, e2⟩ := wipe_some e
        rw [wipe_out fun z => e2 (hv j z)]
        exact e1
      cases b with
      | false =>
        simp only [Bool.false_eq_true, if_false] at q9 ⊢
        exact fin I9 hl8 hk8 q9
      | true =>
        simp only [if_true] at q9 ⊢
        refine thnF (pi1.run _ s9 σ8 H9 _ I9 q9) fun xv s10 hx => thnF hx fun itv s11 h11 => ?_
        obtain ⟨it1, fp1, tn1, J1, H11, e1, I11, T1, st11, f11, W1, ⟨m1, w1⟩, turn1⟩ := h11
        subst e1
        -- the inner loop
        have stat1 : ∀ {H' : Hp}, (∀ b ∈ fp1, H' b = none) → ∀ b ∈ fp1, FpOk (X.blk s3 H3 scope ce fp) ([] ++ pinsAt fp s7.heap) H' b := fun hn b hb => ⟨hn b hb, (f11 b hb).2⟩
        have loop1 : codeAny (model X.prog X.w) X.A (.compLoop (.DictComp kx vx [⟨tg, iter, ifs, 0⟩, ⟨tg1, iter1, ifs1, 0⟩] scope pos) 1 (.ref it1) (.ref D) ce)
            (fun r s' => match r with
              | .ok _ => ∃ m, m < n ∧ ∃ i H', Inv (X.blk s3 H3 scope ce fp) [] (wipe σ (own.map (·.2))) H' s' ∧ tn i s'.heap ∧ (∀ b ∈ fp, H' b = none) ∧ W i m H'
              | .error _ => False) s11 := by
          refine dkLoop_in (fun k s' => ∃ j H', Inv (X.blk s3 H3 scope ce fp) ([] ++ pinsAt fp s7.heap) (wipe σ8 vs1) H' s' ∧ tn1 j s'.heap ∧ (∀ b ∈ fp1, H' b = none) ∧ W1 j k H') ?_ m1 ⟨0, H11, I11.weak (wipe_length _ _) (fun j v e => (wipe_some e).1), st11, fun b hb => (f11 b hb).1, w1⟩
          rintro k s12 ⟨j, H12, I12, st12, n12, w12⟩
          rcases turn1 j k H12 w12 with ⟨stop1, nx1⟩ | ⟨go1, Nx1, hNx1, step1⟩
          · refine thnF (T1.done (X.blk s3 H3 scope ce fp) rfl rfl rfl hc j _ s12 (wipe σ8 vs1) H12 (fun _ _ => False) I12 (stat1 n12) st12 stop1) fun r s13 ⟨hr, I13⟩ => ?_
            subst hr
            exact fin I13 (hl8.trans (wipe_length σ8 vs1).symm) hk9 nx1
          · refine thnF (T1.item (X.blk s3 H3 scope ce fp) rfl rfl rfl hc j _ s12 (wipe σ8 vs1) H12 (fun _ _ => False) I12 (stat1 n12) st12 go1) fun r s13 ⟨u1, hr, h13⟩ => ?_
            subst hr
            refine thnF h13 fun _ s14 ⟨x1, H14, I14, r14, y14, st14, n14⟩ => ?_
            have I14' := I14.pinned (stat1 n14) (T1.obj _ _ st14)
            refine thnF (pg1.run _ s14 (wipe σ8 vs1) H14 x1 u1 _ I14' r14 (step1 x1 H14 y14)) fun _ s15 ⟨σ15, H15, I15, hw15, q15⟩ => ?_
            refine thnF (pt1.run _ s15 σ15 H15 _ I15 q15) fun b1 s16 ⟨H16, I16, q16⟩ => ?_
            have fin1 : ∀ {s' : Shared} {H' : Hp}, Inv (X.blk s3 H3 scope ce fp) (([] ++ pinsAt fp s7.heap) ++ pinsAt fp1 s14.heap) σ15 H' s' → Nx1 H' → ∃ m, m < k ∧ ∃ j H', Inv (X.blk s3 H3 scope ce fp) ([] ++ pinsAt fp s7.heap) (wipe σ8 vs1) H' s' ∧ tn1 j s'.heap ∧ (∀ b ∈ fp1, H' b = none) ∧ W1 j m H' := fun {s' H'} I' nx => by
              obtain ⟨m', hm, w'⟩ := hNx1 H' nx
              have pin' : ∀ b ∈ fp1, ∀ o, s14.heap.get? b = some o → s'.heap.get? b = some o ∧ H' b = none := fun b hb o e =>
                let z := I'.pin (b, o) (List.mem_append_right _ (List.mem_append_right _ (mem_pinsAt hb e)))
                ⟨z.1, z.2.1⟩
              refine ⟨m', hm, j + 1, H', I'.unpinned.weak (by rw [← hw15, wipe_length]) (fun j v e => by rw [← hw15] at e; exact (wipe_some e).1), T1.keep _ _ _ st14 fun b hb o e => (pin' b hb o e).1, fun b hb => ?_, w'⟩
              obtain ⟨o, e, _⟩ := T1.obj _ _ st14 b hb
              exact (pin' b hb o e).2
            cases b1 with
            | false =>
              simp only [Bool.false_eq_true, if_false] at q16 ⊢
              exact fin1 I16 q16
            | true =>
              simp only [if_true] at q16 ⊢
              refine thnF (pk.run _ s16 σ15 H16 _ I16 q16) fun z s17 ⟨yk, H17, I17, r17, q17⟩ => ?_
              refine thnF (pe.run _ s17 σ15 H17 _ I17 q17) fun z2 s18 ⟨yv, H18, I18, r18, lv, φ, ks, vs, xs, k, ⟨p, a, kx, ex, ey, n, t, rk, ek⟩, hz, nx⟩ => ?_
              cases ex
              subst ey
              cases r17
              have n' : NAt (X.blk s3 H3 scope ce fp).prog (X.blk s3 H3 scope ce fp).w H18 D xs := by show NAt X.prog X.w H18 D xs; rw [← hP, ← hw]; exact n
              have hK' : G.K = (X.blk s3 H3 scope ce fp).K := hK
              refine wpAny_dictSet_heap (hsz := n'.len) (by show X.A.units + 8 < cLine; omega) (kn_is hK' I18 rk ek) (n'.dict I18 (t.is hK' I18)) fun h' dd sb => ?_
              obtain ⟨ob, I19, n19⟩ := n_write (X := X.blk s3 H3 scope ce fp) (t' := s18.toks + (nestedKind X.prog X.w).draws k) I18 n' hz dd sb
              exact fin1 I19 (nx a z2 ob rfl r18 (by rw [hP, hw]; exact n19))
        exact dkStart_ok loop1 (T1.self X.A 0 _ _ _ st11 loop1)
  exact codeAny_compStart_dict loop (T.self X.A 0 _ _ _ st4 loop)

end
end Iv

/-! IvT: the machines of the comprehensions of two clauses. -/
namespace Iv
open PySem PySem.Spec PyProof.Rows L2

section
variable {α : Type}
/-- one clause, over what is gathered -/
def lp1 (g : Mg) (c : Mb) (f : Env → α → IH → Res α) (env : Env) : List IV → α → IH → Res α
  | [], a, h => .ok a h
  | x :: xs, a, h => match g x env with
    | none => .bad
    | some env1 => (c env1 h).bind fun b h1 => if b = true then (f env1 a h1).bind fun a1 h2 => lp1 g c f env xs a1 h2 else lp1 g c f env xs a h1
theorem lp_it {J : It} {n : Nat} {Gd : Hp → Prop} {Y : Nat → Hp → V → Hp → Prop} (w : Walk J n Gd Y) {B : V → Hp → (Hp → Prop) → Prop} {H0 : Hp} {Qd : Hp → Prop} (Pv : Nat → Hp → Prop) (h0 : Pv 0 H0) (hG : ∀ i H, i ≤ n → Pv i H → Gd H)
    (hs : ∀ i x H H', i < n → Pv i H → Y i H x H' → B x H' (Pv (i + 1))) (hd : ∀ H, Pv n H → Qd H) :
    ∃ W : Nat → Nat → Hp → Prop, (∃ m, W 0 m H0) ∧ ∀ i m H, W i m H →
      (J.stop i H ∧ Qd H) ∨ (J.go i H ∧ ∃ Nx : Hp → Prop, (∀ H', Nx H' → ∃ m', m' < m ∧ W (i + 1) m' H') ∧ ∀ x H', J.yld i H x H' → B x H' Nx) := by
  refine ⟨fun i m H => m = n - i ∧ i ≤ n ∧ Pv i H, ⟨n, by simp, Nat.zero_le _, h0⟩, ?_⟩
  rintro i m H ⟨rfl, hi, p⟩
  have q := hG i H hi p
  by_cases hlt : i < n
  · refine .inr ⟨w.goes i H hlt q, Pv (i + 1), fun H' p' => ⟨n - (i + 1), by omega, rfl, hlt, p'⟩, fun x H' y => hs i x H H' hlt p (w.yields i H x H' hlt q y)⟩
  · have e : i = n := by omega
    subst e
    exact .inl ⟨w.stops H q, hd H p⟩
theorem lp1_run {G : Gx} {O' lvb : Addr → Prop} {φb : List Addr} {Hb : Hp} {J : It} {xs : List IV} {g : Mg} {c : Mb} {f : Env → α → IH → Res α} {env : Env} {σ : L2.St} {ws own : List Nat} {Qd : Hp → Prop}
    (Pk : IH → List Addr → Hp → α → Prop) (em : L2.St → Hp → (Hp → Prop) → Prop)
    (okb : ∀ a, lvb a → Mut (Hb a)) (E : EnvR G lvb φb Hb env σ) (it : IterOk G lvb φb Hb xs J) (hw : ∀ i ∈ ws, i ∈ own)
    (hrep : ∀ h φ H a, Pk h φ H a → Rep G O' h φ H) (hext : ∀ h φ H a, Pk h φ H a → Ext lvb φb Hb (Lv O' h φ) φ H)
    (hgo : ∀ h φ H a h' φ' H', Pk h φ H a → Go G O' h φ H h' φ' H' → Pk h' φ' H' a)
    (hem : ∀ env σ h φ H a a' h', Pk h φ H a → EnvR G (Lv O' h φ) φ H env σ → f env a h = .ok a' h' → ∀ Nx : Hp → Prop, (∀ φ' H', Pk h' φ' H' a' → Ext (Lv O' h φ) φ H (Lv O' h' φ') φ' H' → Nx H') → em σ H Nx)
    {h0 h2 : IH} {φ0 : List Addr} {H0 : Hp} {a0 a2 : α} (p0 : Pk h0 φ0 H0 a0) (run : lp1 g c f (wipeI env own) xs a0 h0 = .ok a2 h2)
    (fin : ∀ φ2 H2, Pk h2 φ2 H2 a2 → Qd H2) :
    ∃ W : Nat → Nat → Hp → Prop, (∃ m, W 0 m H0) ∧ ∀ i m H, W i m H →
      (J.stop i H ∧ Qd H) ∨ (J.go i H ∧ ∃ Nx : Hp → Prop, (∀ H', Nx H' → ∃ m', m' < m ∧ W (i + 1) m' H') ∧ ∀ x H', J.yld i H x H' → rG G ws g x (wipe σ own) H' fun σ2 H2 => wipe σ2 own = wipe σ own ∧ rT G c σ2 H2 fun b H3 =>
        if b = true then em σ2 H3 Nx else Nx H3) := by
  have wk : Walk J xs.length (fun H => (∀ i, i < xs.length → J.go i H) ∧ J.stop xs.length H) J.yld := ⟨fun i H hi q => q.1 i hi, fun H q => q.2, fun i H x H' _ _ y => y⟩
  refine lp_it wk (B := fun x H' Nx => rG G ws g x (wipe σ own) H' fun σ2 H2 => wipe σ2 own = wipe σ own ∧ rT G c σ2 H2 fun b H3 => if b = true then em σ2 H3 Nx else Nx H3) (fun i H => ∃ h φ a, Pk h φ H a ∧ lp1 g c f (wipeI env own) (xs.drop i) a h = .ok a2 h2) ⟨h0, φ0, a0, p0, run⟩ ?_ ?_ ?_
  · rintro i H _ ⟨h, φ, a, p, _⟩
    obtain ⟨x, y, _⟩ := it _ _ _ (hext _ _ _ _ p) (hrep _ _ _ _ p).ok
    exact ⟨x, y⟩
  · rintro i x H H' hi ⟨h, φ, a, p, lp⟩ yl
    obtain ⟨_, _, iy⟩ := it _ _ _ (hext _ _ _ _ p) (hrep _ _ _ _ p).ok
    obtain ⟨sm, y, ex, ry⟩ := iy i x H' hi yl
    have p' := hgo _ _ _ _ _ _ _ p (Go.same (hrep _ _ _ _ p) sm)
    have ed : xs.drop i = y :: xs.drop (i + 1) := by
      rw [List.drop_eq_getElem_cons hi]
      rw [List.getElem?_eq_getElem hi] at ex
      rw [Option.some.inj ex]
    rw [ed] at lp
    simp only [lp1] at lp
    cases q : g y (wipeI env own) with
    | none =>
      rw [q] at lp
      cases lp
    | some env1 =>
      rw [q] at lp
      obtain ⟨b, h3, e1, lp⟩ := bind_ok lp
      have E' : EnvR G (Lv O' h φ) φ H' (wipeI env own) (wipe σ own) := EnvR.wipe ⟨E.1, fun j z zz => let ⟨v, a1, a2⟩ := E.2 j z zz; ⟨v, a1, RV.mono (hext _ _ _ _ p') okb z a2⟩⟩ own
      refine ⟨_, φ, wipeI env own, y, env1, E', ry, q, fun σ2 E2 o2 => ⟨((o2.mono hw).wipe).trans (onlyAt_wipe.wipe), O', h, φ, env1, hrep _ _ _ _ p', E2, post_ok e1 fun φ3 H3 v g3 rb => ?_⟩⟩
      have rb' : v = b := rb
      subst rb'
      have p3 := hgo _ _ _ _ _ _ _ p' g3
      cases v with
      | false =>
        simp only [Bool.false_eq_true, if_false] at lp
        rw [if_neg (by decide)]
        exact ⟨h3, φ3, a, p3, lp⟩
      | true =>
        simp only [if_true] at lp
        rw [if_pos rfl]
        obtain ⟨a1, h4, e2, lp⟩ := bind_ok lp
        exact hem _ _ _ _ _ _ _ _ p3 (E2.go (hrep _ _ _ _ p') g3) e2 _ fun φ4 H4 p4 _ => ⟨h4, φ4, a1, p4, lp⟩
  · rintro H ⟨h, φ, a, p, lp⟩
    rw [List.drop_length] at lp
    simp only [lp1] at lp
    cases lp
    exact fin φ H p
/-- the inner clause -/
def inC (src : Mi) (g : Mg) (c : Mb) (f : Env → α → IH → Res α) (vs : List Nat) : Env → α → IH → Res α := fun env a h => (src env h).bind fun ys h2 => lp1 g c f (wipeI env vs) ys a h2
def emIn (wi : TI) (g : TG) (tt : TT) (vs : List Nat) (em : L2.St → Hp → (Hp → Prop) → Prop) : L2.St → Hp → (Hp → Prop) → Prop := fun σ2 H3 Nx => wi σ2 H3 fun J1 H4 => ∃ W1 : Nat → Nat → Hp → Prop, (∃ m, W1 0 m H4) ∧ ∀ j k H, W1 j k H →
      (J1.stop j H ∧ Nx H) ∨ (J1.go j H ∧ ∃ Nx1 : Hp → Prop, (∀ H', Nx1 H' → ∃ k', k' < k ∧ W1 (j + 1) k' H') ∧ ∀ x H', J1.yld j H x H' → g x (wipe σ2 vs) H' fun σ3 H5 => wipe σ3 vs = wipe σ2 vs ∧ tt σ3 H5 fun b H6 => if b = true then em σ3 H6 Nx1 else Nx1 H6)
theorem in_em {G : Gx} {O' : Addr → Prop} {src : Mi} {g : Mg} {c : Mb} {f : Env → α → IH → Res α} {ws vs : List Nat} (Pk : IH → List Addr → Hp → α → Prop) (em : L2.St → Hp → (Hp → Prop) → Prop) (hw : ∀ i ∈ ws, i ∈ vs)
    (hrep : ∀ h φ H a, Pk h φ H a → Rep G O' h φ H) (hgo : ∀ h φ H a h' φ' H', Pk h φ H a → Go G O' h φ H h' φ' H' → Pk h' φ' H' a)
    (hem : ∀ env σ h φ H a a' h', Pk h φ H a → EnvR G (Lv O' h φ) φ H env σ → f env a h = .ok a' h' → ∀ Nx : Hp → Prop, (∀ φ' H', Pk h' φ' H' a' → Ext (Lv O' h φ) φ H (Lv O' h' φ') φ' H' → Nx H') → em σ H Nx) :
    ∀ env σ h φ H a a' h', Pk h φ H a → EnvR G (Lv O' h φ) φ H env σ → inC src g c f vs env a h = .ok a' h' → ∀ Nx : Hp → Prop, (∀ φ' H', Pk h' φ' H' a' → Ext (Lv O' h φ) φ H (Lv O' h' φ') φ' H' → Nx H') → emIn (rI G src) (rG G ws g) (rT G c) vs em σ H Nx := by
  intro env σ h φ H a a' h' p E run Nx nx
  obtain ⟨ys, h2, e1, run⟩ := bind_ok run
  refine ⟨O', h, φ, env, hrep _ _ _ _ p, E, post_ok e1 fun φ2 H2 J g2 it => ?_⟩
  have p2 := hgo _ _ _ _ _ _ _ p g2
  have R2 := hrep _ _ _ _ p2
  refine lp1_run (O' := O') (lvb := Lv O' h2 φ2) (φb := φ2) (Hb := H2) (fun h φ H a => Pk h φ H a ∧ Ext (Lv O' h2 φ2) φ2 H2 (Lv O' h φ) φ H) em R2.ok (E.go (hrep _ _ _ _ p) g2) it hw (fun h φ H a q => hrep _ _ _ _ q.1) (fun h φ H a q => q.2) (fun h φ H a h' φ' H' q gg => ⟨hgo _ _ _ _ _ _ _ q.1 gg, q.2.trans gg.ext⟩)
    (fun env σ h φ H a a' h' q EE rr Nx1 nx1 => hem env σ h φ H a a' h' q.1 EE rr Nx1 fun φ' H' pp xx => nx1 φ' H' ⟨pp, q.2.trans xx⟩ xx) ⟨p2, Ext.refl⟩ run fun φ3 H3 q => nx φ3 H3 q.1 (g2.ext.trans q.2)
end
end Iv

/-! IvU: [e for .. for ..] and {k: v for .. for ..} by machines. -/
namespace Iv
open PySem PySem.Spec PyProof.Rows L2

def fLc (e : Mv) : Env → List IV → IH → Res (List IV) := fun env a h => (e env h).bind fun z h' => if a.length < sizeLine then .ok (a ++ [z]) h' else .bad
def mLc2 (src : Mi) (g : Mg) (own : List Nat) (c : Mb) (src1 : Mi) (g1 : Mg) (vs1 : List Nat) (c1 : Mb) (e : Mv) : Mv := fun env h => (src env h).bind fun xs h1 =>
  (lp1 g c (inC src1 g1 c1 (fLc e) vs1) (wipeI env own) xs [] h1).bind fun ys h2 => .ok (.lst ys) h2
def emLc (te : TE) (D : Addr) : L2.St → Hp → (Hp → Prop) → Prop := fun σ3 H6 Nx1 => te σ3 H6 fun y H7 => ∃ acc, H7 D = some (.lst acc) ∧ acc.length < sizeLine ∧ Nx1 (upd H7 D (.lst (acc ++ [y])))
section
variable {X : Cx} {G : Gx} {kx vx elt tg iter tg1 iter1 : Expr} {ifs ifs1 : List Expr} {scope : Scope} {own : List (Str × Nat)} {pos spos : Pos} {src src1 : Mi} {g g1 : Mg} {ws ws1 vs1 : List Nat} {c c1 : Mb} {e fk fv : Mv}
theorem lc2_rd {σ : L2.St} {H : Hp} {Q : VK} (hw : ∀ i ∈ ws, i ∈ own.map (·.2)) (hw1 : ∀ i ∈ ws1, i ∈ vs1) (q : rE G (mLc2 src g (own.map (·.2)) c src1 g1 vs1 c1 e) σ H Q) : tLc2 (rI G src) (rG G ws g) (rT G c) (rI G src1) (rG G ws1 g1) (rT G c1) (rE G e) (own.map (·.2)) vs1 σ H Q := by
  obtain ⟨O, h, φ, env, R, E, P⟩ := q
  refine ⟨O, h, φ, env, R, E, (P.bind (rel := relI G)).mono fun J H1 ⟨xs, h1, φ1, _, g1, it, P1⟩ D nD => ?_⟩
  cases q : lp1 g c (inC src1 _ c1 (fLc e) vs1) (wipeI env (own.map (·.2))) xs [] h1 with
  | bad =>
    rw [q] at P1
    exact P1.elim
  | ok ys h2 =>
    rw [q] at P1
    have R1 := g1.rep
    have nO : ¬ O D := fun o => by
      have m := R1.out D o
      rw [nD] at m
      exact m
    have sub : ∀ a, O a → Oth O D a := fun a o => .inl o
    have dD : Oth O D D := .inr rfl
    have w0 := R1.outer (ho := .lst []) nD trivial
    let Pk : IH → List Addr → Hp → List IV → Prop := fun h φ H a => GoW G O (Oth O D) h1 φ1 H1 h φ H ∧ ∃ acc, H D = some (.lst acc) ∧ RVs G (Lv (Oth O D) h φ) φ H a acc
    have hgo : ∀ h φ H a h' φ' H', Pk h φ H a → Go G (Oth O D) h φ H h' φ' H' → Pk h' φ' H' a := by
      rintro h φ H a h' φ' H' ⟨w, acc, e1, e2⟩ gg
      exact ⟨w.go sub gg, acc, (gg.outk D dD).trans e1, RVs.mono gg.ext w.rep.ok _ e2⟩
    refine lp1_run (O' := Oth O D) (lvb := Lv O h1 φ1) (φb := φ1) (Hb := H1) Pk (emIn (rI G src1) (rG G ws1 _) (rT G c1) vs1 (emLc (rE G e) D)) R1.ok (E.go R g1) it hw (fun h φ H a q => q.1.rep) (fun h φ H a q => q.1.ext) hgo
      (in_em Pk (emLc (rE G e) D) hw1 (fun h φ H a q => q.1.rep) hgo ?_) ⟨w0, [], upd_same, by simp only [RVs]⟩ q ?_
    · intro env σ h φ H a a' h' ⟨w, acc, e1, e2⟩ EE run Nx nx
      obtain ⟨z, h3, e3, run⟩ := bind_ok run
      refine ⟨Oth O D, h, φ, env, w.rep, EE, post_ok e3 fun φ3 H3 v g3 rz => ?_⟩
      have w3 := w.go sub g3
      have e23 := RVs.mono g3.ext w.rep.ok _ e2
      have rz' : RV G (Lv (Oth O D) h3 φ3) φ3 H3 z v := rz
      by_cases hz : a.length < sizeLine
      · rw [if_pos hz] at run
        cases run
        have el : acc.length = a.length := RVs.length e23
        obtain ⟨_, x5, _⟩ := w3.rep.outset (ho := .lst (acc ++ [v])) dD nO trivial sub
        exact ⟨acc, (g3.outk D dD).trans e1, by omega, nx φ3 _ ⟨w3.set dD nO trivial sub, acc ++ [v], upd_same, RVs.mono x5 w3.rep.ok _ (e23.snoc rz')⟩ (g3.ext.trans x5)⟩
      · rw [if_neg hz] at run
        cases run
    · rintro φ2 H2 ⟨w, acc, e1, e2⟩
      have gd := w.drop sub
      obtain ⟨_, xd⟩ := w.rep.drop sub
      refine P1 φ2 H2 _ gd ?_
      simp only [relV, RV]
      refine ⟨D, acc, rfl, fun l => ?_, e1, RVs.mono xd w.rep.ok _ e2⟩
      rcases l with l | ⟨i, u, e1, e2⟩
      · exact nO l
      · exact w.rep.dis i D u e1 e2 dD
theorem s_lc2 (hc : X.calm = true) (hN : X.N.Nodup) (hi : PI X tg iter (rI G src)) (ok : BlkOk X.N X.env.scope scope own) (hw : ∀ i ∈ ws, i ∈ own.map (·.2)) (hw1 : ∀ i ∈ ws1, i ∈ vs1) (hv : ∀ i ∈ vs1, i ∈ own.map (·.2))
    (hg : ∀ (s : Shared) (H : Hp) (C : Addr) (cl : List (Str × Addr)) (fp : List Addr), PG (X.blk s H scope (compEnvC scope cl C X.env) fp) tg (rG G ws g)) (ht : ∀ (s : Shared) (H : Hp) (C : Addr) (cl : List (Str × Addr)) (fp : List Addr), PTs (X.blk s H scope (compEnvC scope cl C X.env) fp) ifs (rT G c))
    (hi1 : ∀ (s : Shared) (H : Hp) (C : Addr) (cl : List (Str × Addr)) (fp : List Addr), PI (X.blk s H scope (compEnvC scope cl C X.env) fp) tg1 iter1 (rI G src1))
    (hg1 : ∀ (s : Shared) (H : Hp) (C : Addr) (cl : List (Str × Addr)) (fp : List Addr), PG (X.blk s H scope (compEnvC scope cl C X.env) fp) tg1 (rG G ws1 g1)) (ht1 : ∀ (s : Shared) (H : Hp) (C : Addr) (cl : List (Str × Addr)) (fp : List Addr), PTs (X.blk s H scope (compEnvC scope cl C X.env) fp) ifs1 (rT G c1))
    (he : ∀ (s : Shared) (H : Hp) (C : Addr) (cl : List (Str × Addr)) (fp : List Addr), PE (X.blk s H scope (compEnvC scope cl C X.env) fp) elt (rE G e)) (hs : ∀ x, foldedSetIterable iter X.env x = pure x := by intro _; rfl) (hs1 : ∀ env x, foldedSetIterable iter1 env x = pure x := by intro _ _; rfl) :
    PE X (.ListComp elt [⟨tg, iter, ifs, 0⟩, ⟨tg1, iter1, ifs1, 0⟩] scope pos) (rE G (mLc2 src g (own.map (·.2)) c src1 g1 vs1 c1 e)) :=
  PEimp (pe_lc2 hc hN hi ok hv hg ht hi1 hg1 ht1 he hs hs1) fun σ H Q q => lc2_rd hw hw1 q
theorem s_setLc2 {i : Nat} {y : Str} {py : Pos} (hc : X.calm = true) (hN : X.N.Nodup) (hy : X.N[i]? = some y) (hyl : X.env.scope.names.lookup y = some .local)
    (hsw : swapsWith (.ListComp elt [⟨tg, iter, ifs, 0⟩, ⟨tg1, iter1, ifs1, 0⟩] scope pos) (some (.Name y py)) spos.line X.env = pure true) (hi : PI X tg iter (rI G src)) (ok : BlkOk X.N X.env.scope scope own) (hw : ∀ i ∈ ws, i ∈ own.map (·.2)) (hw1 : ∀ i ∈ ws1, i ∈ vs1) (hv : ∀ i ∈ vs1, i ∈ own.map (·.2))
    (hg : ∀ (s : Shared) (H : Hp) (C : Addr) (cl : List (Str × Addr)) (fp : List Addr), PG (X.blk s H scope (compEnvC scope cl C X.env) fp) tg (rG G ws g)) (ht : ∀ (s : Shared) (H : Hp) (C : Addr) (cl : List (Str × Addr)) (fp : List Addr), PTs (X.blk s H scope (compEnvC scope cl C X.env) fp) ifs (rT G c))
    (hi1 : ∀ (s : Shared) (H : Hp) (C : Addr) (cl : List (Str × Addr)) (fp : List Addr), PI (X.blk s H scope (compEnvC scope cl C X.env) fp) tg1 iter1 (rI G src1))
    (hg1 : ∀ (s : Shared) (H : Hp) (C : Addr) (cl : List (Str × Addr)) (fp : List Addr), PG (X.blk s H scope (compEnvC scope cl C X.env) fp) tg1 (rG G ws1 g1)) (ht1 : ∀ (s : Shared) (H : Hp) (C : Addr) (cl : List (Str × Addr)) (fp : List Addr), PTs (X.blk s H scope (compEnvC scope cl C X.env) fp) ifs1 (rT G c1))
    (he : ∀ (s : Shared) (H : Hp) (C : Addr) (cl : List (Str × Addr)) (fp : List Addr), PE (X.blk s H scope (compEnvC scope cl C X.env) fp) elt (rE G e)) (hs : ∀ x, foldedSetIterable iter X.env x = pure x := by intro _; rfl) (hs1 : ∀ env x, foldedSetIterable iter1 env x = pure x := by intro _ _; rfl) :
    PS X (.Assign [.Name y py] (.ListComp elt [⟨tg, iter, ifs, 0⟩, ⟨tg1, iter1, ifs1, 0⟩] scope pos) spos) (rS G (mSet i (mLc2 src g (own.map (·.2)) c src1 g1 vs1 c1 e))) :=
  PSimp (ps_setLc2 hc hN hy hyl hsw hi ok hv hg ht hi1 hg1 ht1 he hs hs1) fun D σ H q => set_rd (fun _ _ _ q => lc2_rd hw hw1 q) q

/-! ### {k: v for .. for ..}, the keys tuples -/
theorem pe_dk2 {vs1 : List Nat} {wi wi1 : TI} {g g1 : TG} {tt tt1 : TT} {tk tv : TE} (hK : G.K = X.K) (hP : G.P = X.prog) (hw : G.w = X.w) (hu : X.A.units + 64 < cLine) (hc : X.calm = true) (hN : X.N.Nodup) (hi : PI X tg iter wi) (ok : BlkOk X.N X.env.scope scope own) (hv : ∀ i ∈ vs1, i ∈ own.map (·.2))
    (hg : ∀ (s : Shared) (H : Hp) (C : Addr) (cl : List (Str × Addr)) (fp : List Addr), PG (X.blk s H scope (compEnvC scope cl C X.env) fp) tg g) (ht : ∀ (s : Shared) (H : Hp) (C : Addr) (cl : List (Str × Addr)) (fp : List Addr), PTs (X.blk s H scope (compEnvC scope cl C X.env) fp) ifs tt)
    (hi1 : ∀ (s : Shared) (H : Hp) (C : Addr) (cl : List (Str × Addr)) (fp : List Addr), PI (X.blk s H scope (compEnvC scope cl C X.env) fp) tg1 iter1 wi1)
    (hg1 : ∀ (s : Shared) (H : Hp) (C : Addr) (cl : List (Str × Addr)) (fp : List Addr), PG (X.blk s H scope (compEnvC scope cl C X.env) fp) tg1 g1) (ht1 : ∀ (s : Shared) (H : Hp) (C : Addr) (cl : List (Str × Addr)) (fp : List Addr), PTs (X.blk s H scope (compEnvC scope cl C X.env) fp) ifs1 tt1)
    (hk : ∀ (s : Shared) (H : Hp) (C : Addr) (cl : List (Str × Addr)) (fp : List Addr), PE (X.blk s H scope (compEnvC scope cl C X.env) fp) kx tk)
    (he : ∀ (s : Shared) (H : Hp) (C : Addr) (cl : List (Str × Addr)) (fp : List Addr), PE (X.blk s H scope (compEnvC scope cl C X.env) fp) vx tv) (hs : ∀ x, foldedSetIterable iter X.env x = pure x := by intro _; rfl) (hs1 : ∀ env x, foldedSetIterable iter1 env x = pure x := by intro _ _; rfl) :
    PE X (.DictComp kx vx [⟨tg, iter, ifs, 0⟩, ⟨tg1, iter1, ifs1, 0⟩] scope pos) (tDk2 G wi g tt wi1 g1 tt1 tk tv (own.map (·.2)) vs1) := by
  refine ⟨fun pins s σ H Q I h => ?_⟩
  rw [arm_eval_DictComp]
  refine dk2_core hK hP hw hu hc hN I hi ok hv hg ht hk he hs hi1 hg1 ht1 hs1 h fun D C s' m H' I' q hn f => ⟨m, hn, fun h'' sb => ?_⟩
  obtain ⟨f0, f1, f2, f3, f4, f5⟩ := f
  exact ⟨.ref D, H', I'.turned (t' := s'.toks) (fun b o hb e => (sb.2 b hb).trans e) f0 f1 f3 f4 f5, rfl, q⟩
theorem ps_setDk2 {i : Nat} {y : Str} {py : Pos} {vs1 : List Nat} {wi wi1 : TI} {g g1 : TG} {tt tt1 : TT} {tk tv : TE} (hK : G.K = X.K) (hP : G.P = X.prog) (hw : G.w = X.w) (hu : X.A.units + 64 < cLine) (hc : X.calm = true) (hN : X.N.Nodup) (hy : X.N[i]? = some y) (hyl : X.env.scope.names.lookup y = some .local)
    (hsw : swapsWith (.DictComp kx vx [⟨tg, iter, ifs, 0⟩, ⟨tg1, iter1, ifs1, 0⟩] scope pos) (some (.Name y py)) spos.line X.env = pure true) (hi : PI X tg iter wi) (ok : BlkOk X.N X.env.scope scope own) (hv : ∀ i ∈ vs1, i ∈ own.map (·.2))
    (hg : ∀ (s : Shared) (H : Hp) (C : Addr) (cl : List (Str × Addr)) (fp : List Addr), PG (X.blk s H scope (compEnvC scope cl C X.env) fp) tg g) (ht : ∀ (s : Shared) (H : Hp) (C : Addr) (cl : List (Str × Addr)) (fp : List Addr), PTs (X.blk s H scope (compEnvC scope cl C X.env) fp) ifs tt)
    (hi1 : ∀ (s : Shared) (H : Hp) (C : Addr) (cl : List (Str × Addr)) (fp : List Addr), PI (X.blk s H scope (compEnvC scope cl C X.env) fp) tg1 iter1 wi1)
    (hg1 : ∀ (s : Shared) (H : Hp) (C : Addr) (cl : List (Str × Addr)) (fp : List Addr), PG (X.blk s H scope (compEnvC scope cl C X.env) fp) tg1 g1) (ht1 : ∀ (s : Shared) (H : Hp) (C : Addr) (cl : List (Str × Addr)) (fp : List Addr), PTs (X.blk s H scope (compEnvC scope cl C X.env) fp) ifs1 tt1)
    (hk : ∀ (s : Shared) (H : Hp) (C : Addr) (cl : List (Str × Addr)) (fp : List Addr), PE (X.blk s H scope (compEnvC scope cl C X.env) fp) kx tk)
    (he : ∀ (s : Shared) (H : Hp) (C : Addr) (cl : List (Str × Addr)) (fp : List Addr), PE (X.blk s H scope (compEnvC scope cl C X.env) fp) vx tv) (hs : ∀ x, foldedSetIterable iter X.env x = pure x := by intro _; rfl) (hs1 : ∀ env x, foldedSetIterable iter1 env x = pure x := by intro _ _; rfl) :
    PS X (.Assign [.Name y py] (.DictComp kx vx [⟨tg, iter, ifs, 0⟩, ⟨tg1, iter1, ifs1, 0⟩] scope pos) spos) (tAsg (tDk2 G wi g tt wi1 g1 tt1 tk tv (own.map (·.2)) vs1) (gName i)) := by
  refine ⟨fun pins s σ H D I h => ?_⟩
  rw [exec_Assign_Name_used _ _ _ _ hsw]
  refine wpAny_bind (wpAny_standAt (wpAny_bind ?_))
  show wpAny _ X.A (do let _ ← comprehension (.DictComp kx vx [⟨tg, iter, ifs, 0⟩, ⟨tg1, iter1, ifs1, 0⟩] scope pos) scope X.env (firstIterPos [⟨tg, iter, ifs, 0⟩, ⟨tg1, iter1, ifs1, 0⟩] pos) newDict false (eval iter X.env) (some (assign (.Name y py) X.env))) _ _ s
  have h : tDk2 G wi g tt wi1 g1 tt1 tk tv (own.map (·.2)) vs1 σ H (fun x H1 => gName i x σ H1 D.nx) := h
  refine wpAny_bind (thn (dk2_core (Qf := fun _ s' => SP X pins D .next s') hK hP hw hu hc hN I hi ok hv hg ht hk he hs hi1 hg1 ht1 hs1 h fun L C s' m H' I' q hn f => ?_) fun _ s' hq => wpAny_pure (wpAny_pure hq))
  show wpAny _ _ (assign (.Name y py) X.env (.ref L)) _ _ _
  refine wpAny_assign_Name (store_ok2 (v := V.ref L) I' hN hy (.inl hyl) rfl (fun s2 I2 ⟨a, sb, ha⟩ => ?_) (.inr hyl))
  obtain ⟨f0, f1, f2, f3, f4, f5⟩ := f
  have haC : C ≠ a := by
    rcases ha with z | z
    · rw [z]; exact f1
    · exact fun e => f4 y a z e.symm
  refine ⟨m, hn.sameBut sb haC, fun h3 sb3 => ?_⟩
  exact ⟨_, H', I2.turned (t' := s2.toks) (fun b o hb e => (sb3.2 b hb).trans e) f0 f1 f3 f4 f5, q⟩
def fDk (fk fv : Mv) : Env → List IV × List IV → IH → Res (List IV × List IV) := fun env a h => (fk env h).bind fun k h1 => (fv env h1).bind fun z h2 => match nkey k with
  | some kk => if a.1.length < sizeLine then .ok (dputN k kk z a.1 a.2) h2 else .bad
  | none => .bad
def mDk2 (src : Mi) (g : Mg) (own : List Nat) (c : Mb) (src1 : Mi) (g1 : Mg) (vs1 : List Nat) (c1 : Mb) (fk fv : Mv) : Mv := fun env h => (src env h).bind fun xs h1 =>
  (lp1 g c (inC src1 g1 c1 (fDk fk fv) vs1) (wipeI env own) xs ([], []) h1).bind fun r h2 => .ok (.dcn r.1 r.2) h2
def emDk (G : Gx) (tk tv : TE) (D : Addr) : L2.St → Hp → (Hp → Prop) → Prop := fun σ3 H6 Nx1 => tk σ3 H6 fun y H7 => tv σ3 H7 fun z H8 => ∃ lv φ ks vs xs k, rKN G lv φ H8 (.ref D) y ks vs xs k ∧ xs.length < sizeLine ∧
          ∀ a u o, y = .ref a → RelV z u → NAt G.P G.w (upd H8 D (dno D o)) D (storedH xs k a u) → Nx1 (upd H8 D (dno D o))
theorem NAt.at {P : Program} {w : World} {H H' : Hp} {p : Addr} {xs : List (NestedKey × Addr × Value)} (n : NAt P w H p xs) (e : H' p = H p) : NAt P w H' p xs := by
  obtain ⟨⟨o, es, ep, e1, e2⟩, a, b, c⟩ := n
  exact ⟨⟨o, es, ep, e.trans e1, e2⟩, a, b, c⟩
theorem dk2_rd {σ : L2.St} {H : Hp} {Q : VK} (hw : ∀ i ∈ ws, i ∈ own.map (·.2)) (hw1 : ∀ i ∈ ws1, i ∈ vs1) (q : rE G (mDk2 src g (own.map (·.2)) c src1 g1 vs1 c1 fk fv) σ H Q) : tDk2 G (rI G src) (rG G ws g) (rT G c) (rI G src1) (rG G ws1 g1) (rT G c1) (rE G fk) (rE G fv) (own.map (·.2)) vs1 σ H Q := by
  obtain ⟨O, h, φ, env, R, E, P⟩ := q
  refine ⟨O, h, φ, env, R, E, (P.bind (rel := relI G)).mono fun J H1 ⟨xs, h1, φ1, _, g1, it, P1⟩ D o0 nD n0 => ?_⟩
  cases q : lp1 g c (inC src1 _ c1 (fDk fk fv) vs1) (wipeI env (own.map (·.2))) xs ([], []) h1 with
  | bad =>
    rw [q] at P1
    exact P1.elim
  | ok r h2 =>
    rw [q] at P1
    have R1 := g1.rep
    have nO : ¬ O D := fun o => by
      have m := R1.out D o
      rw [nD] at m
      exact m
    have sub : ∀ a, O a → Oth O D a := fun a o => .inl o
    have dD : Oth O D D := .inr rfl
    have w0 := R1.outer (ho := dno D o0) nD trivial
    let Pk : IH → List Addr → Hp → List IV × List IV → Prop := fun h φ H a => GoW G O (Oth O D) h1 φ1 H1 h φ H ∧ ∃ xs, NAt G.P G.w H D xs ∧ PrN G (Lv (Oth O D) h φ) φ H a.1 a.2 xs
    have hgo : ∀ h φ H a h' φ' H', Pk h φ H a → Go G (Oth O D) h φ H h' φ' H' → Pk h' φ' H' a := by
      rintro h φ H a h' φ' H' ⟨w, xs, e1, e2⟩ gg
      exact ⟨w.go sub gg, xs, e1.at (gg.outk D dD), e2.mono gg.ext w.rep.ok⟩
    refine lp1_run (O' := Oth O D) (lvb := Lv O h1 φ1) (φb := φ1) (Hb := H1) Pk (emIn (rI G src1) (rG G ws1 _) (rT G c1) vs1 (emDk G (rE G fk) (rE G fv) D)) R1.ok (E.go R g1) it hw (fun h φ H a q => q.1.rep) (fun h φ H a q => q.1.ext) hgo
      (in_em Pk (emDk G (rE G fk) (rE G fv) D) hw1 (fun h φ H a q => q.1.rep) hgo ?_) ⟨w0, [], n0, .nil⟩ q ?_
    · intro env σ h φ H a a' h' ⟨w, xs, e1, e2⟩ EE run Nx nx
      obtain ⟨k, h3, e3, run⟩ := bind_ok run
      obtain ⟨z, h4, e4, run⟩ := bind_ok run
      refine ⟨Oth O D, h, φ, env, w.rep, EE, post_ok e3 fun φ3 H3 v g3 rk => ⟨Oth O D, h3, φ3, env, g3.rep, EE.go w.rep g3, post_ok e4 fun φ4 H4 u g4 rz => ?_⟩⟩
      have w3 := w.go sub g3
      have w4 := w3.go sub g4
      have rk' : RV G (Lv (Oth O D) h4 φ4) φ4 H4 k v := relV.go w3.rep g4 rk
      have rz' : RV G (Lv (Oth O D) h4 φ4) φ4 H4 z u := rz
      cases qk : nkey k with
      | none =>
        simp only [qk] at run
        cases run
      | some kk =>
        simp only [qk] at run
        by_cases hz : a.1.length < sizeLine
        · rw [if_pos hz] at run
          cases run
          obtain ⟨b, rfl⟩ := nkey_ref qk rk'
          have t4 := (e2.mono g3.ext w.rep.ok).mono g4.ext w3.rep.ok
          have n4 := (e1.at (g3.outk D dD)).at (g4.outk D dD)
          refine ⟨_, φ4, a.1, a.2, xs, kk, ⟨D, b, k, rfl, rfl, n4, t4, rk', qk⟩, by rw [t4.len]; exact hz, fun b' u' o' eb ru nn => ?_⟩
          cases eb
          obtain ⟨_, x5, _⟩ := w4.rep.outset (ho := dno D o') dD nO trivial sub
          exact nx φ4 _ ⟨w4.set dD nO trivial sub, _, nn, (t4.put qk rk' rz' ru).mono x5 w4.rep.ok⟩ ((g3.ext.trans g4.ext).trans x5)
        · rw [if_neg hz] at run
          cases run
    · rintro φ2 H2 ⟨w, xs, e1, e2⟩
      have gd := w.drop sub
      obtain ⟨_, xd⟩ := w.rep.drop sub
      refine P1 φ2 H2 _ gd ?_
      have ro := (e2.mono xd w.rep.ok).ro e1
      simp only [relV, RV]
      simp only [RO] at ro
      obtain ⟨nks, ks', vs', d1, d2, d3, d4⟩ := ro
      refine ⟨D, nks, ks', vs', rfl, fun l => ?_, d1, d2, d3, d4⟩
      rcases l with l | ⟨i, u, e1, e2⟩
      · exact nO l
      · exact w.rep.dis i D u e1 e2 dD
theorem s_dk2 (hK : G.K = X.K) (hP : G.P = X.prog) (hW : G.w = X.w) (hu : X.A.units + 64 < cLine) (hc : X.calm = true) (hN : X.N.Nodup) (hi : PI X tg iter (rI G src)) (ok : BlkOk X.N X.env.scope scope own) (hw : ∀ i ∈ ws, i ∈ own.map (·.2)) (hw1 : ∀ i ∈ ws1, i ∈ vs1) (hv : ∀ i ∈ vs1, i ∈ own.map (·.2))
    (hg : ∀ (s : Shared) (H : Hp) (C : Addr) (cl : List (Str × Addr)) (fp : List Addr), PG (X.blk s H scope (compEnvC scope cl C X.env) fp) tg (rG G ws g)) (ht : ∀ (s : Shared) (H : Hp) (C : Addr) (cl : List (Str × Addr)) (fp : List Addr), PTs (X.blk s H scope (compEnvC scope cl C X.env) fp) ifs (rT G c))
    (hi1 : ∀ (s : Shared) (H : Hp) (C : Addr) (cl : List (Str × Addr)) (fp : List Addr), PI (X.blk s H scope (compEnvC scope cl C X.env) fp) tg1 iter1 (rI G src1))
    (hg1 : ∀ (s : Shared) (H : Hp) (C : Addr) (cl : List (Str × Addr)) (fp : List Addr), PG (X.blk s H scope (compEnvC scope cl C X.env) fp) tg1 (rG G ws1 g1)) (ht1 : ∀ (s : Shared) (H : Hp) (C : Addr) (cl : List (Str × Addr)) (fp : List Addr), PTs (X.blk s H scope (compEnvC scope cl C X.env) fp) ifs1 (rT G c1))
    (hk : ∀ (s : Shared) (H : Hp) (C : Addr) (cl : List (Str × Addr)) (fp : List Addr), PE (X.blk s H scope (compEnvC scope cl C X.env) fp) kx (rE G fk))
    (he : ∀ (s : Shared) (H : Hp) (C : Addr) (cl : List (Str × Addr)) (fp : List Addr), PE (X.blk s H scope (compEnvC scope cl C X.env) fp) vx (rE G fv)) (hs : ∀ x, foldedSetIterable iter X.env x = pure x := by intro _; rfl) (hs1 : ∀ env x, foldedSetIterable iter1 env x = pure x := by intro _ _; rfl) :
    PE X (.DictComp kx vx [⟨tg, iter, ifs, 0⟩, ⟨tg1, iter1, ifs1, 0⟩] scope pos) (rE G (mDk2 src g (own.map (·.2)) c src1 g1 vs1 c1 fk fv)) :=
  PEimp (pe_dk2 hK hP hW hu hc hN hi ok hv hg ht hi1 hg1 ht1 hk he hs hs1) fun σ H Q q => dk2_rd hw hw1 q
theorem s_setDk2 {i : Nat} {y : Str} {py : Pos} (hK : G.K = X.K) (hP : G.P = X.prog) (hW : G.w = X.w) (hu : X.A.units + 64 < cLine) (hc : X.calm = true) (hN : X.N.Nodup) (hy : X.N[i]? = some y) (hyl : X.env.scope.names.lookup y = some .local)
    (hsw : swapsWith (.DictComp kx vx [⟨tg, iter, ifs, 0⟩, ⟨tg1, iter1, ifs1, 0⟩] scope pos) (some (.Name y py)) spos.line X.env = pure true) (hi : PI X tg iter (rI G src)) (ok : BlkOk X.N X.env.scope scope own) (hw : ∀ i ∈ ws, i ∈ own.map (·.2)) (hw1 : ∀ i ∈ ws1, i ∈ vs1) (hv : ∀ i ∈ vs1, i ∈ own.map (·.2))
    (hg : ∀ (s : Shared) (H : Hp) (C : Addr) (cl : List (Str × Addr)) (fp : List Addr), PG (X.blk s H scope (compEnvC scope cl C X.env) fp) tg (rG G ws g)) (ht : ∀ (s : Shared) (H : Hp) (C : Addr) (cl : List (Str × Addr)) (fp : List Addr), PTs (X.blk s H scope (compEnvC scope cl C X.env) fp) ifs (rT G c))
    (hi1 : ∀ (s : Shared) (H : Hp) (C : Addr) (cl : List (Str × Addr)) (fp : List Addr), PI (X.blk s H scope (compEnvC scope cl C X.env) fp) tg1 iter1 (rI G src1))
    (hg1 : ∀ (s : Shared) (H : Hp) (C : Addr) (cl : List (Str × Addr)) (fp : List Addr), PG (X.blk s H scope (compEnvC scope cl C X.env) fp) tg1 (rG G ws1 g1)) (ht1 : ∀ (s : Shared) (H : Hp) (C : Addr) (cl : List (Str × Addr)) (fp : List Addr), PTs (X.blk s H scope (compEnvC scope cl C X.env) fp) ifs1 (rT G c1))
    (hk : ∀ (s : Shared) (H : Hp) (C : Addr) (cl : List (Str × Addr)) (fp : List Addr), PE (X.blk s H scope (compEnvC scope cl C X.env) fp) kx (rE G fk))
    (he : ∀ (s : Shared) (H : Hp) (C : Addr) (cl : List (Str × Addr)) (fp : List Addr), PE (X.blk s H scope (compEnvC scope cl C X.env) fp) vx (rE G fv)) (hs : ∀ x, foldedSetIterable iter X.env x = pure x := by intro _; rfl) (hs1 : ∀ env x, foldedSetIterable iter1 env x = pure x := by intro _ _; rfl) :
    PS X (.Assign [.Name y py] (.DictComp kx vx [⟨tg, iter, ifs, 0⟩, ⟨tg1, iter1, ifs1, 0⟩] scope pos) spos) (rS G (mSet i (mDk2 src g (own.map (·.2)) c src1 g1 vs1 c1 fk fv))) :=
  PSimp (ps_setDk2 hK hP hW hu hc hN hy hyl hsw hi ok hv hg ht hi1 hg1 ht1 hk he hs hs1) fun D σ H q => set_rd (fun _ _ _ q => dk2_rd hw hw1 q) q
end
end Iv

/-! IvV: len(set(x)), x of ints or of tuples of ints. -/
namespace Iv
open PySem PySem.Spec PyProof.Rows L2

section
variable {α : Type} [DecidableEq α]
def ddup : List α → List α
  | [] => []
  | x :: xs => if x ∈ xs then ddup xs else x :: ddup xs
theorem mem_ddup {x : α} : ∀ {xs : List α}, x ∈ ddup xs ↔ x ∈ xs
  | [] => Iff.rfl
  | y :: xs => by
    unfold ddup
    by_cases h : y ∈ xs
    · rw [if_pos h, mem_ddup, List.mem_cons]
      exact ⟨.inr, fun q => q.elim (fun e => e ▸ h) id⟩
    · rw [if_neg h, List.mem_cons, List.mem_cons, mem_ddup]
theorem nodup_ddup : ∀ {xs : List α}, (ddup xs).Nodup
  | [] => List.nodup_nil
  | y :: xs => by
    unfold ddup
    by_cases h : y ∈ xs
    · rw [if_pos h]; exact nodup_ddup
    · rw [if_neg h]; exact List.nodup_cons.mpr ⟨fun q => h (mem_ddup.mp q), nodup_ddup⟩
theorem ddup_len {xs ys : List α} (nd : ys.Nodup) (h : ∀ x, x ∈ ys ↔ x ∈ xs) : ys.length = (ddup xs).length :=
  ((List.perm_ext_iff_of_nodup nd nodup_ddup).mpr fun x => (h x).trans mem_ddup.symm).length_eq
end
def SetN (K : PySem.W.Frag) (H : Hp) (x : V) (n : Nat) : Prop := (∃ p ns, x = .ref p ∧ SqT K H p (ns.map V.int) ∧ ns.length ≤ 1000 ∧ n = (ddup ns).length) ∨
  (∃ (l : Addr) (ks : List (Addr × List Int)), x = V.ref l ∧ SqL K H l (ks.map fun p => V.ref p.1) ∧ (∀ p ∈ ks, SqT K H p.1 (p.2.map V.int)) ∧ ks.length < 64 ∧ n = (ddup (ks.map (·.2))).length)
def tLen2 (K : PySem.W.Frag) (ta : TE) : TE := fun σ H Q => ta σ H fun x H1 => ∃ n, SetN K H1 x n ∧ Q (.int (n : Nat)) H1
section
variable {X : Cx} {G : Gx} {a : Expr} {p p2 q pos : Pos}
theorem pe_len2 {ta : TE} (hc : X.calm = true) (hu : X.A.units + 64 < cLine) (hg : Gl X "len") (hm : X.mg "len" = none) (hg2 : Gl X "set") (hm2 : X.mg "set" = none) (ha : PE X a ta)
    (na : starEach [a] X.env = (false, eval a X.env) :: starEach [] X.env) : PE X (.Call (.Name "len" p) [.Call (.Name "set" p2) [a] [] q] [] pos) (tLen2 X.K ta) := by
  refine ⟨fun pins s σ H Q I h => ?_⟩
  refine Call_ (ld_blt I hg hm PySem.boot_len ?_)
  refine PyProof.Rows.callWith_builtin1 (PyProof.Rows.args_cons ?_ rfl) rfl rfl
  refine Call_ (ld_blt I hg2 hm2 PyProof.Rows.boot_set ?_)
  refine PyProof.Rows.callWith_type1 (PyProof.Rows.args_cons (thn (ha.run pins s σ H _ I h) fun v s1 ⟨x, H1, I1, r1, n, sn, q1⟩ => PyProof.Rows.args_nil ?_) na) na rfl
  have hd := I1.ok.hd hc
  rcases sn with ⟨p0, ns, rfl, hq, hl, en⟩ | ⟨l, ks, rfl, hl, hk, hf, en⟩
  · cases r1
    obtain ⟨its, rv, pt, hz⟩ := I1.tuple hq
    refine call_set_tupI ns hd (show s1.heap.IsTuple p0 its.toArray from pt) (ints_of_vals rv) (by unfold scanBound; omega) fun h' tk c R1 hcn k => ?_
    refine PyProof.Rows.args_nil ?_
    obtain ⟨o, es, ep, t, ho, hex, hdt, g, nd, hm2, hb, hf, hn, hr, hl2⟩ := R1
    have I2 : Inv X pins σ H1 { s1 with heap := h', toks := tk } := I1.kept fun b o e => k b o e
    have e : es.size = n := by
      rw [en, ← ddup_len nd fun x => (by rw [← hm2 x, decide_eq_true_eq]), List.length_map, Array.length_toList]
    refine call_len_set ho hex hdt hf (by unfold scanBound at hb; omega) ⟨.int n, H1, I2.tok _, ⟨_, by rw [e]⟩, q1⟩
  · cases r1
    obtain ⟨its, rv, pl, hz⟩ := I1.list hl
    refine call_set_tups (P := X.prog) (w := X.w) ks hd pl.isList (by simpa using refs_of_vals rv) (fun p hp => I1.isT (hk p hp)) hf (by omega) fun h' tk L es ep t R g k => ?_
    refine PyProof.Rows.args_nil ?_
    have I2 : Inv X pins σ H1 { s1 with heap := h', toks := tk } := I1.kept fun b o e => k b o e
    have e : es.size = n := by
      have f := R.rows
      have f2 := congrArg List.length f
      unfold rowsOf at f2
      rw [Array.length_toList, List.length_map] at f2
      rw [f2, en, ← ddup_len R.nd fun x => ⟨fun hx => ?_, fun hx => ?_⟩, List.length_map]
      · obtain ⟨y, hy, ey⟩ := List.mem_map.mp hx
        have := g.sub y hy
        rw [List.take_length] at this
        exact List.mem_map.mpr ⟨y, this, ey⟩
      · obtain ⟨y, hy, ey⟩ := List.mem_map.mp hx
        rw [← ey]
        exact g.all y (by rw [List.take_length]; exact hy)
    obtain ⟨o, ho, hex, hdt⟩ := R.ob
    have hfit : t.fits es.size = true := SetTR.fits (s := { s1 with heap := h', toks := tk }) R
    refine call_len_set ho hex hdt hfit ?_ ⟨.int n, H1, I2.tok _, ⟨_, by rw [e]⟩, q1⟩
    have few := R.few
    have f2 := congrArg List.length R.rows
    unfold rowsOf at f2
    rw [Array.length_toList, List.length_map] at f2
    omega
def tupsOf : List IV → Option (List (List Int))
  | [] => some []
  | .tup xs :: r => (intsOf xs).bind fun ns => (tupsOf r).map (ns :: ·)
  | _ => none
def setI : IV → Option Nat
  | .tup xs => (intsOf xs).bind fun ns => if ns.length ≤ 1000 then some (ddup ns).length else none
  | .tpx xs => (intsOf xs).bind fun ns => if ns.length ≤ 1000 then some (ddup ns).length else none
  | .lst xs => (tupsOf xs).bind fun ks => if ks.length < 64 then some (ddup ks).length else none
  | _ => none
theorem tups_of {lv : Addr → Prop} {φ : List Addr} {H : Hp} : ∀ {xs : List IV} {vs : List V} {ks : List (List Int)}, RVs G lv φ H xs vs → tupsOf xs = some ks → ∃ ps : List (Addr × List Int), vs = ps.map (fun p => V.ref p.1) ∧ (∀ p ∈ ps, SqT G.K H p.1 (p.2.map V.int)) ∧ ps.map (·.2) = ks
  | [], vs, ks, r, e => by
    simp only [RVs] at r
    simp only [tupsOf, Option.some.injEq] at e
    subst r e
    exact ⟨[], rfl, fun _ h => (by cases h), rfl⟩
  | x :: xs, vs, ks, r, e => by
    simp only [RVs] at r
    obtain ⟨v, r', rfl, h1, h2⟩ := r
    cases x with
    | tup ys =>
      simp only [tupsOf, Option.bind_eq_some_iff, Option.map_eq_some_iff] at e
      obtain ⟨ns, e1, ks', e2, rfl⟩ := e
      obtain ⟨ps, rfl, h3, h4⟩ := tups_of h2 e2
      simp only [RV] at h1
      obtain ⟨p, us, rfl, hq, ru⟩ := h1
      have := ints_of ru e1
      subst this
      refine ⟨(p, ns) :: ps, rfl, fun q hq' => ?_, by rw [List.map_cons, h4]⟩
      rcases List.mem_cons.mp hq' with z | z
      · rw [z]; exact hq
      · exact h3 q z
    | _ => simp only [tupsOf] at e; cases e
def mLen2 (f : Mv) : Mv := fun env h => (f env h).bind fun x h1 => match setI (view h1 x) with
  | some n => .ok (.int (n : Nat)) h1
  | none => .bad
theorem s_len2 {f : Mv} (hK : G.K = X.K) (hc : X.calm = true) (hu : X.A.units + 64 < cLine) (hg : Gl X "len") (hm : X.mg "len" = none) (hg2 : Gl X "set") (hm2 : X.mg "set" = none) (ha : PE X a (rE G f))
    (na : starEach [a] X.env = (false, eval a X.env) :: starEach [] X.env := by rfl) : PE X (.Call (.Name "len" p) [.Call (.Name "set" p2) [a] [] q] [] pos) (rE G (mLen2 f)) := by
  refine PEimp (pe_len2 hc hu hg hm hg2 hm2 ha na) fun σ H Q ⟨O, h, φ, env, R, E, P⟩ => ?_
  refine ⟨O, h, φ, env, R, E, (P.bind (rel := relV G)).mono fun v H1 ⟨x, h1, φ1, _, g1, r1, P1⟩ => ?_⟩
  have w := RW.view g1.rep r1
  cases e : setI (view h1 x) with
  | none =>
    rw [e] at P1
    exact P1.elim
  | some n =>
    rw [e] at P1
    refine ⟨n, ?_, P1 φ1 H1 _ (Go.refl g1.rep) rfl⟩
    cases q : view h1 x with
    | tup xs =>
      rw [q] at e w
      simp only [setI, Option.bind_eq_some_iff] at e
      obtain ⟨ns, e1, e2⟩ := e
      simp only [RW, RV] at w
      obtain ⟨p, us, rfl, hq, ru⟩ := w
      by_cases hl : ns.length ≤ 1000
      · rw [if_pos hl] at e2
        exact .inl ⟨p, ns, rfl, by rw [← hK, ← ints_of ru e1]; exact hq, hl, (Option.some.inj e2).symm⟩
      · rw [if_neg hl] at e2
        cases e2
    | tpx xs =>
      rw [q] at e w
      simp only [setI, Option.bind_eq_some_iff] at e
      obtain ⟨ns, e1, e2⟩ := e
      simp only [RW, RV] at w
      obtain ⟨p, us, rfl, hq, ru⟩ := w
      by_cases hl : ns.length ≤ 1000
      · rw [if_pos hl] at e2
        exact .inl ⟨p, ns, rfl, by rw [← hK, ← ints_of ru e1]; exact hq.sq, hl, (Option.some.inj e2).symm⟩
      · rw [if_neg hl] at e2
        cases e2
    | lst xs =>
      rw [q] at e w
      simp only [setI, Option.bind_eq_some_iff] at e
      obtain ⟨ns, e1, e2⟩ := e
      obtain ⟨p, us, rfl, hq, ru⟩ := w
      by_cases hl : ns.length < 64
      · rw [if_pos hl] at e2
        obtain ⟨ps, rfl, h3, h4⟩ := tups_of ru e1
        exact .inr ⟨p, ps, rfl, hK ▸ SqL.of hq, fun y hy => hK ▸ h3 y hy, by rw [← List.length_map (f := fun p : Addr × List Int => p.2), h4]; exact hl, by rw [h4]; exact (Option.some.inj e2).symm⟩
      · rw [if_neg hl] at e2
        cases e2
    | _ =>
      rw [q] at e
      simp only [setI] at e
      cases e
end
end Iv

/-! IvW: list(zip(a, b)). -/
namespace Iv
open PySem PySem.Spec PyProof.Rows L2

section
variable {prog : Program} {w : World} {A : Around} {E : Value → Shared → Prop} {s : Shared} {z TI TO i1 i2 T : Addr} {f : Bool} {oT : Obj} {fp1 fp2 : List Addr} {n1 n2 i : Nat} {P1 P2 : Nat → Value → Prop} {St1 St2 : Nat → Heap → Prop}
theorem zipH_item {Q : Value → Shared → Prop} (S : ZipSep2 z TI TO i1 i2 fp1 fp2) (D1 : Draws prog w A i1 fp1 n1 P1 St1) (D2 : Draws prog w A i2 fp2 n2 P2 St2)
    (hz : IsZipHeld s.heap z TI TO T f) (hT : s.heap.get? T = some oT) (hTI : IsTupOf2 s.heap TI (.ref i1) (.ref i2)) (st1 : St1 i s.heap) (st2 : St2 i s.heap) (hlt1 : i < n1) (hlt2 : i < n2)
    (hQ : ∀ x1 x2 h' tk, P1 i x1 → P2 i x2 → IsZipHeld h' z TI TO T true → St1 (i + 1) h' → St2 (i + 1) h' → IsTupOf2 h' s.heap.objs.size x1 x2 →
      (∀ c o, c ≠ z → c ≠ i1 → c ≠ i2 → s.heap.get? c = some o → h'.get? c = some o) → Q (.ref s.heap.objs.size) { s with heap := h', toks := tk }) :
    wpAny (model prog w) A (Builtin.«zip.__next__» ⟨[.ref z], []⟩) (fun fin s' => ∃ v, fin = .done (.ret v) ∧ Q v s') E s := by
  obtain ⟨hp, g, d, tk0, os⟩ := s
  show wpAny _ _ (field (.ref z) 2 >>= _) _ _ _
  refine wpAny_bind (wpAny_field hz rfl (x := .bool false) rfl ?_)
  show wpAny _ _ (field (.ref z) 3 >>= _) _ _ _
  refine wpAny_bind (wpAny_field hz rfl (x := .ref TI) rfl ?_)
  refine wpAny_bind (wpAny_seqItems hTI rfl ?_)
  show wpAny _ _ (Builtin.SmallTypes.ownedTupleIsFree (.ref z) >>= _) _ _ _
  refine wpAny_bind (wpAny_tupleHeld_zip hz hT fun h₁ hz₁ hs₁ => ?_)
  replace hs₁ : Heap.SameBut z hp h₁ := hs₁
  simp only [Bool.false_eq_true, if_false]
  refine wpAny_bind ?_
  rw [← Array.forIn_toList]
  simp only [List.forIn_cons, List.forIn_nil]
  refine wpAny_bind (wpAny_bind (wpAny_holding ?_))
  show wpAny _ _ (Builtin.SmallTypes.nextOf (.ref i1) >>= _) _ _ ⟨h₁, g, d, tk0, os⟩
  refine wpAny_bind (D1.item i _ _ _ hlt1 (D1.over st1 hs₁ S.zf1) fun x1 p1 tk1 hx1 sn1 hp1 => wpAny_pure ?_)
  replace hp1 : Heap.SameBut i1 h₁ p1 := hp1
  refine wpAny_pure ?_
  refine wpAny_bind (wpAny_bind (wpAny_holding ?_))
  show wpAny _ _ (Builtin.SmallTypes.nextOf (.ref i2) >>= _) _ _ ⟨p1, g, d, tk1, os⟩
  refine wpAny_bind (D2.item i _ _ _ hlt2 (D2.over (D2.over st2 hs₁ S.zf2) hp1 S.sep1_2) fun x2 p2 tk2 hx2 sn2 hp2 => wpAny_pure ?_)
  replace hp2 : Heap.SameBut i2 p1 p2 := hp2
  refine wpAny_pure (wpAny_pure ?_)
  show wpAny _ _ (newTuple [x1, x2] >>= _) _ _ _
  refine wpAny_bind (wpAny_newTuple ?_)
  have hsz : p2.objs.size = hp.objs.size := by rw [hp2.1, hp1.1, hs₁.1]
  have hz₃ : IsZipHeld p2 z TI TO T true := hp2.extBut _ _ S.zi2 (hp1.extBut _ _ S.zi1 hz₁)
  have hk : ∀ c o, c ≠ z → c ≠ i1 → c ≠ i2 → hp.get? c = some o → p2.get? c = some o := fun c o c1 c2 c3 e => hp2.extBut _ _ c3 (hp1.extBut _ _ c2 (hs₁.extBut _ _ c1 e))
  have hj1 : St1 (i + 1) p2 := D1.over sn1 hp2 S.sep2_1
  refine wpAny_pure ⟨_, rfl, ?_⟩
  show Q (.ref p2.objs.size) _
  have hp' : IsTupOf2 (p2.push { cls := .type "tuple", data := .seq #[x1, x2] }) p2.objs.size x1 x2 := Heap.get?_push_size _ rfl
  rw [hsz] at hp' ⊢
  exact hQ x1 x2 _ tk2 hx1 hx2 (Heap.get?_push_of_some _ hz₃) (D1.frame _ _ _ hj1 fun b _ o e => Heap.get?_push_of_some _ e) (D2.frame _ _ _ sn2 fun b _ o e => Heap.get?_push_of_some _ e) hp' fun c o c1 c2 c3 e => Heap.get?_push_of_some _ (hk c o c1 c2 c3 e)
theorem zipH_end {Q : Fin → Shared → Prop} (S : ZipSep2 z TI TO i1 i2 fp1 fp2) (D1 : Draws prog w A i1 fp1 n1 P1 St1) (D2 : Draws prog w A i2 fp2 n2 P2 St2)
    (hz : IsZipHeld s.heap z TI TO T f) (hT : s.heap.get? T = some oT) (hTI : IsTupOf2 s.heap TI (.ref i1) (.ref i2)) (st1 : St1 i s.heap) (st2 : St2 i s.heap) (hle1 : i ≤ n1) (hle2 : i ≤ n2) (hend : i = n1 ∨ i = n2)
    (hE : ∀ h' tk e, (∀ c o, c ≠ z → c ≠ i1 → c ≠ i2 → s.heap.get? c = some o → h'.get? c = some o) → (∃ o, h'.get? e = some o ∧ o.cls = .type "StopIteration") → E (.ref e) { s with heap := h', toks := tk }) :
    wpAny (model prog w) A (Builtin.«zip.__next__» ⟨[.ref z], []⟩) Q E s := by
  obtain ⟨hp, g, d, tk0, os⟩ := s
  show wpAny _ _ (field (.ref z) 2 >>= _) _ _ _
  refine wpAny_bind (wpAny_field hz rfl (x := .bool false) rfl ?_)
  show wpAny _ _ (field (.ref z) 3 >>= _) _ _ _
  refine wpAny_bind (wpAny_field hz rfl (x := .ref TI) rfl ?_)
  refine wpAny_bind (wpAny_seqItems hTI rfl ?_)
  show wpAny _ _ (Builtin.SmallTypes.ownedTupleIsFree (.ref z) >>= _) _ _ _
  refine wpAny_bind (wpAny_tupleHeld_zip hz hT fun h₁ hz₁ hs₁ => ?_)
  replace hs₁ : Heap.SameBut z hp h₁ := hs₁
  simp only [Bool.false_eq_true, if_false]
  refine wpAny_bind ?_
  rw [← Array.forIn_toList]
  simp only [List.forIn_cons, List.forIn_nil]
  refine wpAny_bind (wpAny_bind (wpAny_holding ?_))
  show wpAny _ _ (Builtin.SmallTypes.nextOf (.ref i1) >>= _) _ _ ⟨h₁, g, d, tk0, os⟩
  by_cases hlt1 : i < n1
  · refine wpAny_bind (D1.item i _ _ _ hlt1 (D1.over st1 hs₁ S.zf1) fun x1 p1 tk1 hx1 sn1 hp1 => wpAny_pure ?_)
    replace hp1 : Heap.SameBut i1 h₁ p1 := hp1
    refine wpAny_pure ?_
    have hi2 : i = n2 := by omega
    refine wpAny_bind (wpAny_bind (wpAny_holding ?_))
    show wpAny _ _ (Builtin.SmallTypes.nextOf (.ref i2) >>= _) _ _ ⟨p1, g, d, tk1, os⟩
    refine wpAny_bind (D2.done ⟨p1, g, d, tk1, os⟩ _ _ (by rw [← hi2]; exact D2.over (D2.over st2 hs₁ S.zf2) hp1 S.sep1_2) fun q e hq he => ?_)
    replace hq : Heap.ExtBut i2 p1 q := hq
    exact hE q tk1 e (fun c o c1 c2 c3 x => hq _ _ c3 (hp1.extBut _ _ c2 (hs₁.extBut _ _ c1 x))) he
  · have hi1 : i = n1 := by omega
    refine wpAny_bind (D1.done ⟨h₁, g, d, tk0, os⟩ _ _ (by rw [← hi1]; exact D1.over st1 hs₁ S.zf1) fun q e hq he => ?_)
    replace hq : Heap.ExtBut i1 h₁ q := hq
    exact hE q tk0 e (fun c o c1 c2 _ x => hq _ _ c2 (hs₁.extBut _ _ c1 x)) he
/-- the zip, its tuple free or held -/
def Zst (h : Heap) (z TI TO : Addr) : Prop := (IsZip h z TI TO .none ∧ ∃ a1 a2, IsTupOf2 h TO a1 a2) ∨ ∃ T f o, IsZipHeld h z TI TO T f ∧ h.get? T = some o
theorem zst_ty {s : Shared} (q : Zst s.heap z TI TO) : s.TypeIs (.ref z) "zip" := by
  rcases q with ⟨q, _⟩ | ⟨T, f, o, q, _⟩
  · exact ⟨_, q, rfl⟩
  · exact ⟨_, q, rfl⟩
theorem zst_item {Q : Option Value → Shared → Prop} (S : ZipSep2 z TI TO i1 i2 fp1 fp2) (D1 : Draws prog w A.in1 i1 fp1 n1 P1 St1) (D2 : Draws prog w A.in1 i2 fp2 n2 P2 St2)
    (hz : Zst s.heap z TI TO) (hTI : IsTupOf2 s.heap TI (.ref i1) (.ref i2)) (st1 : St1 i s.heap) (st2 : St2 i s.heap) (hlt1 : i < n1) (hlt2 : i < n2)
    (hQ : ∀ x1 x2 h' tk, P1 i x1 → P2 i x2 → Zst h' z TI TO → St1 (i + 1) h' → St2 (i + 1) h' → IsTupOf2 h' s.heap.objs.size x1 x2 →
      (∀ c o, c ≠ z → c ≠ TO → c ≠ i1 → c ≠ i2 → s.heap.get? c = some o → h'.get? c = some o) → Q (some (.ref s.heap.objs.size)) { s with heap := h', toks := tk }) :
    wpAny (model prog w) A (pyNext (.ref z)) Q E s := by
  rcases hz with ⟨hz, a1, a2, hTO⟩ | ⟨T, f, o, hz, hT⟩
  · exact wpAny_pyNext_zipD2_item S D1 D2 hz hTI hTO st1 st2 hlt1 hlt2 fun x1 x2 h' tk y1 y2 b1 b2 d1 d2 b5 b6 b7 => hQ x1 x2 h' tk y1 y2 (.inr ⟨_, false, _, b1, b5⟩) d1 d2 b5 b7
  · have hTy : s.TypeIs (.ref z) "zip" := ⟨_, hz, rfl⟩
    unfold pyNext
    refine wpAny_bind (wpAny_attempt (wpAny_callSpecial?_slot (name := Str.ofString "__next__") hTy F.slot_zip_next
      (wpAny_call_entry F.slot_zip_next hTy F.entry_zip_next
        (zipH_item S D1 D2 hz hT hTI st1 st2 hlt1 hlt2 fun x1 x2 h' tk y1 y2 b1 d1 d2 b5 b7 => wpAny_pure (hQ x1 x2 h' tk y1 y2 ?_ d1 d2 b5 fun c o c1 _ c2 c3 e => b7 c o c1 c2 c3 e)) (F.args_zip_next_1 _))))
    refine .inr ⟨T, true, ?_⟩
    by_cases e1 : T = z
    · have : ∃ o, h'.get? T = some o := by
        rw [e1]
        exact ⟨_, b1⟩
      exact ⟨this.choose, b1, this.choose_spec⟩
    · by_cases e2 : T = i1
      · obtain ⟨o', ho'⟩ := D1.live _ _ d1
        exact ⟨o', b1, e2 ▸ ho'⟩
      · by_cases e3 : T = i2
        · obtain ⟨o', ho'⟩ := D2.live _ _ d2
          exact ⟨o', b1, e3 ▸ ho'⟩
        · exact ⟨o, b1, b7 T o e1 e2 e3 hT⟩
theorem zst_end {Q : Option Value → Shared → Prop} (hh : A.handled = none) (S : ZipSep2 z TI TO i1 i2 fp1 fp2) (D1 : Draws prog w A.in1 i1 fp1 n1 P1 St1) (D2 : Draws prog w A.in1 i2 fp2 n2 P2 St2)
    (hz : Zst s.heap z TI TO) (hTI : IsTupOf2 s.heap TI (.ref i1) (.ref i2)) (st1 : St1 i s.heap) (st2 : St2 i s.heap) (hle1 : i ≤ n1) (hle2 : i ≤ n2) (hend : i = n1 ∨ i = n2)
    (hQ : ∀ h' tk, (∀ c o, c ≠ z → c ≠ TO → c ≠ i1 → c ≠ i2 → s.heap.get? c = some o → h'.get? c = some o) → Q none { s with heap := h', toks := tk }) :
    wpAny (model prog w) A (pyNext (.ref z)) Q E s := by
  rcases hz with ⟨hz, a1, a2, hTO⟩ | ⟨T, f, o, hz, hT⟩
  · exact wpAny_pyNext_zipD2_end S D1 D2 hz hTI hTO st1 st2 hle1 hle2 hend hQ
  · have hTy : s.TypeIs (.ref z) "zip" := ⟨_, hz, rfl⟩
    unfold pyNext
    refine wpAny_bind (wpAny_attempt (wpAny_callSpecial?_slot (name := Str.ofString "__next__") hTy F.slot_zip_next
      (wpAny_call_entry F.slot_zip_next hTy F.entry_zip_next (zipH_end S D1 D2 hz hT hTI st1 st2 hle1 hle2 hend fun h' tk e hk he => ?_) (F.args_zip_next_1 _))))
    obtain ⟨o, ho, hc⟩ := he
    refine wpAny_bind (wpAny_isInstance (T := "StopIteration") (b := true) ⟨o, ho, hc⟩ isSubtype_stop ?_)
    exact wpAny_pure (hQ _ _ fun c o c1 _ c2 c3 e => hk c o c1 c2 c3 e)
end
end Iv

/-! IvX: list(zip(a, b)): the loop, the call, the machine. -/
namespace Iv
open PySem PySem.Spec PyProof.Rows L2

theorem rd_same {H H' : Hp} {p : Addr} {o : HO} (s : Same H H') (h : Rd H p o) : Rd H' p o := by
  rcases h with h | ⟨u, h⟩
  · exact .inl (s _ _ h)
  · exact .inr ⟨u, s _ _ h⟩
theorem sqA_same {K : PySem.W.Frag} {H H' : Hp} {k : Sk} {xs : List V} (s : Same H H') (h : SqA K H k xs) : SqA K H' k xs := by
  cases k with
  | l a => exact h.imp (rd_same s) id
  | t a => exact h.imp (rd_same s) id
/-- the pairs so far -/
def Zpr (H : Hp) (S : Addr) (acc xs1 xs2 : List V) (i : Nat) : Prop := acc.length = i ∧ ∀ j, j < i → ∃ T x y, T ≠ S ∧ acc[j]? = some (.ref T) ∧ xs1[j]? = some x ∧ xs2[j]? = some y ∧ H T = some (.tup [x, y])
section
variable {X : Cx} {pins : List (Addr × Obj)} {σ : L2.St} {A : Around} {R : Result → Shared → Prop} {z TI TO i1 i2 S : Addr} {k1 k2 : Sk} {xs1 xs2 : List V} {H0 : Hp} {res : Value}
theorem zl_loop (hh : A.handled = none) (D : Zok2 z TI TO i1 i2 k1 k2) (hS0 : H0 S = none) (q1 : SqA X.K H0 k1 xs1) (q2 : SqA X.K H0 k2 xs2) (hn : min xs1.length xs2.length ≤ sizeLine)
    (fin : ∀ s' H' acc, Inv X pins σ H' s' → Same H0 H' → H' S = some (.lst acc) → Zpr H' S acc xs1 xs2 (min xs1.length xs2.length) → R (.ok (.ret res)) s') :
    ∀ (k i : Nat) (s : Shared) (H : Hp) (acc : List V), min xs1.length xs2.length - i = k → i ≤ min xs1.length xs2.length → Inv X pins σ H s → (∀ b ∈ [z, TI, TO, i1, i2], FpOk X pins H b) → Same H0 H → Zst s.heap z TI TO → IsTupOf2 s.heap TI (.ref i1) (.ref i2) → TO < s.heap.objs.size → ItA s.heap i1 i k1 → ItA s.heap i2 i k2 →
      H S = some (.lst acc) → Zpr H S acc xs1 xs2 i → codeAny (model X.prog X.w) A (.builtin "list.extend.loop" ⟨[.ref S, .ref z, res], []⟩) R s := by
  intro k
  induction k with
  | zero =>
    intro i s H acc hk hi I hf sm hz hTI hTO h1 h2 hS hp
    have hin : i = min xs1.length xs2.length := by omega
    refine codeAny_builtin F.entry_extend_loop ?_
    rw [Around.under_plainId F.plain_extend_loop _]
    show wpAny _ A.in1 (pyNext (.ref z) >>= _) _ _ s
    obtain ⟨its1, rv1, on1⟩ := sqA_on I (sqA_same sm q1)
    obtain ⟨its2, rv2, on2⟩ := sqA_on I (sqA_same sm q2)
    have l1 := rv1.length
    have l2 := rv2.length
    refine wpAny_bind (zst_end (i := i) (A := A.in1) hh D.sep (draws_A (prog := X.prog) (w := X.w) (A := A.in1.in1) hh i1 k1 D.ne.1 its1.toArray) (draws_A (prog := X.prog) (w := X.w) (A := A.in1.in1) hh i2 k2 D.ne.2 its2.toArray) hz hTI ⟨h1, on1⟩ ⟨h2, on2⟩ (by simp; omega) (by simp; omega) (by simp; omega) fun h' tk hk' => ?_)
    have wr : ∀ c, c ∉ [z, TI, TO, i1, i2] → c ≠ z ∧ c ≠ TO ∧ c ≠ i1 ∧ c ≠ i2 := fun c hc => by
      simp only [List.mem_cons, List.not_mem_nil, or_false, not_or] at hc
      exact ⟨hc.1, hc.2.2.1, hc.2.2.2.1, hc.2.2.2.2⟩
    have I1 := I.turnedL (t' := tk) (ch := [z, TI, TO, i1, i2]) (fun b o hb q => hk' b o (wr b hb).1 (wr b hb).2.1 (wr b hb).2.2.1 (wr b hb).2.2.2 q) hf
    exact wpAny_pure (fin _ H acc I1 sm hS (hin ▸ hp))
  | succ k ih =>
    intro i s H acc hk hi I hf sm hz hTI hTO h1 h2 hS hp
    have hlt : i < min xs1.length xs2.length := by omega
    refine codeAny_builtin F.entry_extend_loop ?_
    rw [Around.under_plainId F.plain_extend_loop _]
    show wpAny _ A.in1 (pyNext (.ref z) >>= _) _ _ s
    obtain ⟨its1, rv1, on1⟩ := sqA_on I (sqA_same sm q1)
    obtain ⟨its2, rv2, on2⟩ := sqA_on I (sqA_same sm q2)
    have l1 := rv1.length
    have l2 := rv2.length
    obtain ⟨x, ex⟩ : ∃ x, xs1[i]? = some x := ⟨xs1[i]'(by omega), List.getElem?_eq_getElem (by omega)⟩
    obtain ⟨y, ey⟩ : ∃ y, xs2[i]? = some y := ⟨xs2[i]'(by omega), List.getElem?_eq_getElem (by omega)⟩
    obtain ⟨u1, hu1, ru1⟩ := rv1.get ex
    obtain ⟨u2, hu2, ru2⟩ := rv2.get ey
    refine wpAny_bind (zst_item (i := i) (A := A.in1) D.sep (draws_A (prog := X.prog) (w := X.w) (A := A.in1.in1) hh i1 k1 D.ne.1 its1.toArray) (draws_A (prog := X.prog) (w := X.w) (A := A.in1.in1) hh i2 k2 D.ne.2 its2.toArray) hz hTI ⟨h1, on1⟩ ⟨h2, on2⟩ (by simp; omega) (by simp; omega) fun v1 v2 h' tk f1 f2 z' st1 st2 hT hk' => ?_)
    have g1 : v1 = u1 := by
      rw [show its1.toArray[i]? = some u1 by simpa using hu1] at f1
      exact (Option.some.inj f1).symm
    have g2 : v2 = u2 := by
      rw [show its2.toArray[i]? = some u2 by simpa using hu2] at f2
      exact (Option.some.inj f2).symm
    subst g1 g2
    have wr : ∀ c, c ∉ [z, TI, TO, i1, i2] → c ≠ z ∧ c ≠ TO ∧ c ≠ i1 ∧ c ≠ i2 := fun c hc => by
      simp only [List.mem_cons, List.not_mem_nil, or_false, not_or] at hc
      exact ⟨hc.1, hc.2.2.1, hc.2.2.2.1, hc.2.2.2.2⟩
    have new : ObjOk X.prog X.w (upd H s.heap.objs.size (.tup [x, y])) h' s.heap.objs.size (.tup [x, y]) := ⟨by show 2 ≤ sizeLine; decide, [v1, v2], .cons ru1 (.cons ru2 .nil), ⟨_, hT, rfl, 0, rfl⟩⟩
    have hTn : H s.heap.objs.size = none := I.hok.fresh (Nat.le_refl _)
    have I1 := I.turnedNew (t' := tk) (ch := [z, TI, TO, i1, i2]) (fun b o hb q => hk' b o (wr b hb).1 (wr b hb).2.1 (wr b hb).2.2.1 (wr b hb).2.2.2 q) hf (Nat.le_refl _) new
    have hST : S ≠ s.heap.objs.size := fun e => by rw [← e, hS] at hTn; cases hTn
    have hS1 : upd H s.heap.objs.size (.tup [x, y]) S = some (.lst acc) := by rw [upd_ne hST]; exact hS
    obtain ⟨hz1, its, n0, ri, eS⟩ := I1.hok S _ hS1
    have la := ri.length
    have hal := hp.1
    show wpAny _ A.in1 (updateSeq S (·.push (.ref s.heap.objs.size)) >>= _) _ _ _
    refine wpAny_bind (wpAny_updateSeq (s := { s with heap := h', toks := tk }) eS rfl ?_ (by rw [List.size_toArray]; omega) (by rw [Array.size_push, List.size_toArray]; omega))
    have oth : ∀ b o, b ≠ S → h'.get? b = some o → (h'.update S (Obj.mapSeq (·.push (.ref s.heap.objs.size)))).get? b = some o := fun b o hb q => (Heap.get?_update_other _ _ (Ne.symm hb)).trans q
    have self := Heap.get?_update_self (Obj.mapSeq (·.push (Value.ref s.heap.objs.size))) eS rfl
    have I2 := I1.write (x := S) (e := S) (o := .lst (acc ++ [.ref s.heap.objs.size])) (t' := tk) (by rw [hS1]; trivial) (.inl rfl) (fun b u hb q => oth b u hb q) ⟨_, self⟩
      ⟨by rw [List.length_append]; show acc.length + 1 ≤ sizeLine; omega, its ++ [.ref s.heap.objs.size], n0 + 1, ri.append (.cons (show RelV (.ref s.heap.objs.size) (.ref s.heap.objs.size) from rfl) .nil), by
        show (h'.update S (Obj.mapSeq (·.push (.ref s.heap.objs.size)))).get? S = _
        rw [self]
        simp [Obj.mapSeq]⟩
    have nS : ∀ b ∈ [z, TI, TO, i1, i2], b ≠ S := fun b hb e => by
      have := (hf b hb).1
      rw [e, hS] at this
      cases this
    have ltb : ∀ b ∈ [z, TI, TO, i1, i2], b < s.heap.objs.size := fun b hb => by
      simp only [List.mem_cons, List.not_mem_nil, or_false] at hb
      rcases hb with rfl | rfl | rfl | rfl | rfl
      · obtain ⟨o, e, _⟩ := zst_ty (s := s) hz; exact Heap.lt_size e
      · exact Heap.lt_size hTI
      · exact hTO
      · obtain ⟨_, e, _⟩ := itA_obj h1; exact Heap.lt_size e
      · obtain ⟨_, e, _⟩ := itA_obj h2; exact Heap.lt_size e
    refine wpAny_pure ⟨plainId_quiet F.plain_extend_loop _, ih (i + 1) _ _ (acc ++ [.ref s.heap.objs.size]) (by omega) hlt I2 (fun b hb => ?_) ?_ ?_ ?_ ?_ ?_ ?_ upd_same ⟨by simp; omega, fun j hj => ?_⟩⟩
    · obtain ⟨f0, fr⟩ := hf b hb
      refine ⟨?_, fr⟩
      rw [upd_ne (nS b hb), upd_ne (Nat.ne_of_lt (ltb b hb))]
      exact f0
    · intro b u e
      have nb : b ≠ S := fun z => by rw [z, hS0] at e; cases e
      have e' := sm b u e
      rw [upd_ne nb, upd_ne (fun z => by rw [z, hTn] at e'; cases e')]
      exact e'
    · rcases z' with ⟨a, a1, a2, b⟩ | ⟨T, f, o, a, b⟩
      · exact .inl ⟨oth _ _ (nS z (by simp)) a, a1, a2, oth _ _ (nS TO (by simp)) b⟩
      · refine .inr ⟨T, f, ?_⟩
        by_cases e : T = S
        · have : ∃ o, (h'.update S (Obj.mapSeq (·.push (.ref s.heap.objs.size)))).get? T = some o := by
            rw [e]
            exact ⟨_, self⟩
          exact ⟨this.choose, oth _ _ (nS z (by simp)) a, this.choose_spec⟩
        · exact ⟨o, oth _ _ (nS z (by simp)) a, oth _ _ e b⟩
    · exact oth _ _ (nS TI (by simp)) (hk' _ _ (D.sep.TIz) (D.sep.TITO) (D.sep.TIi1) (D.sep.TIi2) hTI)
    · show TO < (h'.update S (Obj.mapSeq (·.push (.ref s.heap.objs.size)))).objs.size
      rw [Heap.size_update]
      exact Nat.lt_trans hTO (Heap.lt_size hT)
    · exact itA_keep st1.1 fun o q => oth _ _ (nS i1 (by simp)) q
    · exact itA_keep st2.1 fun o q => oth _ _ (nS i2 (by simp)) q
    · by_cases hj' : j < i
      · obtain ⟨T, x', y', n1, n2, n3, n4, n5⟩ := hp.2 j hj'
        refine ⟨T, x', y', n1, by rw [List.getElem?_append_left (by omega)]; exact n2, n3, n4, ?_⟩
        rw [upd_ne n1, upd_ne (fun z => by rw [z, hTn] at n5; cases n5)]
        exact n5
      · have : j = i := by omega
        subst this
        refine ⟨s.heap.objs.size, x, y, hST.symm, by rw [List.getElem?_append_right (by omega)]; simp [hal], ex, ey, ?_⟩
        rw [upd_ne hST.symm, upd_same]

theorem zl_extend (hh : A.handled = none) (D : Zok2 z TI TO i1 i2 k1 k2) (hS0 : H0 S = none) (q1 : SqA X.K H0 k1 xs1) (q2 : SqA X.K H0 k2 xs2) (hn : min xs1.length xs2.length ≤ sizeLine) {s : Shared} {c0 : Nat}
    {H : Hp} (I : Inv X pins σ H s) (sm : Same H0 H) (hSH : H S = some (.lst [])) (hz : IsZip s.heap z TI TO .none) (hTI : IsTupOf2 s.heap TI (.ref i1) (.ref i2)) (hTO : ∃ a1 a2, IsTupOf2 s.heap TO a1 a2) (h1 : ItA s.heap i1 0 k1) (h2 : ItA s.heap i2 0 k2)
    (hf : ∀ b ∈ [z, TI, TO, i1, i2], FpOk X pins H b) (hS : s.heap.get? S = some { cls := .type "list", data := .seq #[] c0 })
    (fin : ∀ s' H' acc, Inv X pins σ H' s' → Same H0 H' → H' S = some (.lst acc) → Zpr H' S acc xs1 xs2 (min xs1.length xs2.length) → R (.ok (.ret res)) s') :
    wpAny (model X.prog X.w) A.in1 (Builtin.List.listExtendWith (.ref S) (.ref z) res)
      (fun fin s' => match fin with | .done f => R (.ok f) s' | .again c' => c'.quiet = true ∧ codeAny (model X.prog X.w) A c' R s') (fun e s' => R (.error e) s') s := by
  have hT : s.TypeIs (.ref z) "zip" := ⟨_, hz, rfl⟩
  have ne : ∀ b ∈ [z, TI, TO, i1, i2], b ≠ S := fun b hb e => by
    have := (hf b hb).1
    rw [e, hSH] at this
    cases this
  have hSz : S ≠ z := (ne z (by simp)).symm
  unfold Builtin.List.listExtendWith
  refine wpAny_bind (wpAny_typeOf hT ?_)
  have e1 : Builtin.List.listSameRef (.ref S) (.ref z) = false := by simp [Builtin.List.listSameRef, hSz]
  have e2 : (Value.type "zip" == Value.type "list") = false := by decide
  have e3 : (Value.type "zip" == Value.type "tuple") = false := by decide
  simp only [e1, e2, e3, Bool.or_false, Bool.false_eq_true, if_false]
  refine wpAny_bind (wpAny_pyIter_zip hz ?_)
  refine wpAny_bind (wpAny_holding ?_)
  unfold Builtin.List.listLengthHint
  refine wpAny_bind (wpAny_specialOf hT (T := "zip") (am_miss_of_fast (by decide +kernel)) ?_)
  show wpAny _ A.in1 (specialOf (Value.ref z) (Str.ofString "__length_hint__") >>= _) _ _ _
  refine wpAny_bind (wpAny_specialOf hT (T := "zip") (am_miss_of_fast (by decide +kernel)) ?_)
  refine wpAny_pure ?_
  show wpAny _ A.in1 (rule "list.extend.makes-room" >>= fun _ => Builtin.List.listTouch (.ref S) >>= fun _ =>
    again (.builtin "list.extend.loop" ⟨[.ref S, .ref z, res], []⟩)) _ _ _
  refine wpAny_bind (wpAny_rule ?_)
  refine wpAny_bind ?_
  show wpAny _ A.in1 (updateSeq S (·.push .none) >>= fun _ => updateSeq S (·.pop)) _ _ _
  refine wpAny_bind (wpAny_updateSeq hS rfl ?_)
  have hS₂ := Heap.get?_update_self (Obj.mapSeq (·.push Value.none)) hS rfl
  refine wpAny_updateSeq hS₂ rfl ?_
  have hS₃ := Heap.get?_update_self (Obj.mapSeq (·.pop)) hS₂ rfl
  have oth : ∀ b o, b ≠ S → s.heap.get? b = some o → ((s.heap.update S (Obj.mapSeq (·.push Value.none))).update S (Obj.mapSeq (·.pop))).get? b = some o :=
    fun b o hb e => (Heap.get?_update_other _ _ (Ne.symm hb)).trans ((Heap.get?_update_other _ _ (Ne.symm hb)).trans e)
  have I1 : Inv X pins σ (upd H S (.lst [])) { s with heap := (s.heap.update S (Obj.mapSeq (·.push Value.none))).update S (Obj.mapSeq (·.pop)) } :=
    I.write (x := S) (e := S) (o := .lst []) (t' := s.toks) (by rw [hSH]; trivial) (.inl rfl) (fun b u hb q => oth b u hb q) ⟨_, hS₃⟩ ⟨Nat.zero_le _, [], _, .nil, hS₃⟩
  have sm1 : Same H0 (upd H S (.lst [])) := fun b u e => by
    rw [upd_ne (fun z => by rw [z, hS0] at e; cases e)]
    exact sm b u e
  refine wpAny_pure ⟨plainId_quiet F.plain_extend_loop _, zl_loop hh D hS0 q1 q2 hn fin _ 0 _ (upd H S (.lst [])) [] rfl (Nat.zero_le _) I1 (fun b hb => ⟨by rw [upd_ne (ne b hb)]; exact (hf b hb).1, (hf b hb).2⟩) sm1
    (.inl ⟨oth _ _ (ne z (by simp)) hz, hTO.choose, hTO.choose_spec.choose, oth _ _ (ne TO (by simp)) hTO.choose_spec.choose_spec⟩) (oth _ _ (ne TI (by simp)) hTI) ?_ (itA_keep h1 fun o q => oth _ _ (ne i1 (by simp)) q) (itA_keep h2 fun o q => oth _ _ (ne i2 (by simp)) q) upd_same ⟨rfl, fun j hj => absurd hj (Nat.not_lt_zero _)⟩⟩
  show TO < ((s.heap.update S (Obj.mapSeq (·.push Value.none))).update S (Obj.mapSeq (·.pop))).objs.size
  rw [Heap.size_update, Heap.size_update]
  exact Heap.lt_size hTO.choose_spec.choose_spec
def tLz (K : PySem.W.Frag) (ta : TA) : TE := fun σ H Q => ta σ H fun vs H1 => ∃ k1 k2 xs1 xs2, vs = [.ref (Sk.adr k1), .ref (Sk.adr k2)] ∧ SqA K H1 k1 xs1 ∧ SqA K H1 k2 xs2 ∧ min xs1.length xs2.length ≤ sizeLine ∧
  ∀ S H' acc, H1 S = none → Same H1 H' → H' S = some (.lst acc) → Zpr H' S acc xs1 xs2 (min xs1.length xs2.length) → Q (.ref S) H'
end
section
variable {X : Cx} {G : Gx} {e e2 : Expr} {p p2 q pos : Pos}
theorem pe_lz {ta : TA} (hc : X.calm = true) (hg0 : Gl X "list") (hm0 : X.mg "list" = none) (hg : Gl X "zip") (hm : X.mg "zip" = none) (ha : PA X [e, e2] ta)
    (hs : starEach [e, e2] X.env = (false, eval e X.env) :: starEach [e2] X.env) (hpl : (backTo q (starEach [e2] X.env)).any (·.1) = false) :
    PE X (.Call (.Name "list" p) [.Call (.Name "zip" p2) [e, e2] [] q] [] pos) (tLz X.K ta) := by
  refine ⟨fun pins s σ H Q I h => ?_⟩
  refine Call_ (ld_blt I hg0 hm0 PyProof.Rows.boot_list ?_)
  refine PyProof.Rows.callWith_type1 (PyProof.Rows.args_cons ?_ rfl) rfl rfl
  refine Call_ (ld_blt I hg hm PyProof.Rows.boot_zip (PyProof.Rows.callWith_type1 (thn (ha.run q pins s σ H _ I h) fun us s1 ⟨vs, H1, I1, r1, q1⟩ => ?_) hs hpl))
  obtain ⟨k1, k2, xs1, xs2, ex, hq1, hq2, hn, q1⟩ := q1
  subst ex
  obtain ⟨its1, rv1, on1⟩ := sqA_on I1 hq1
  have lt1 := onA_lt on1
  obtain ⟨its2, rv2, on2⟩ := sqA_on I1 hq2
  have lt2 := onA_lt on2
  have ev : us = [.ref k1.adr, .ref k2.adr] := by
    cases r1 with
    | cons s1 t1 =>
      cases s1
      cases t1 with
      | cons s2 t2 =>
        cases s2
        cases t2
        rfl
  subst ev
  refine zip_begins2 (begins_A k1 its1.toArray) (begins_A k2 its2.toArray) on1 on2 fun h' hz hTI hTO h1 h2 hsz hk => PyProof.Rows.args_nil ?_
  have I2 : Inv X pins σ H1 { s1 with heap := h' } := I1.kept (t' := s1.toks) hk
  have D : Zok2 (s1.heap.objs.size + 4) (s1.heap.objs.size + 2) (s1.heap.objs.size + 3) (s1.heap.objs.size) (s1.heap.objs.size + 1) k1 k2 := ⟨zip_sep2 (fp1 := [k1.adr]) (fp2 := [k2.adr]) (fun b hb => by rw [List.mem_singleton.mp hb]; exact lt1) (fun b hb => by rw [List.mem_singleton.mp hb]; exact lt2), Nat.ne_of_lt lt1, Nat.ne_of_lt (Nat.lt_of_lt_of_le lt2 (Nat.le_add_right _ _))⟩
  have hf : ∀ b ∈ [s1.heap.objs.size + 4, s1.heap.objs.size + 2, s1.heap.objs.size + 3, s1.heap.objs.size, s1.heap.objs.size + 1], s1.heap.objs.size ≤ b ∧ b < h'.objs.size := fun b hb => by
    simp only [List.mem_cons, List.not_mem_nil, or_false] at hb
    rw [hsz]
    rcases hb with e | e | e | e | e
    · exact ⟨e ▸ Nat.le_add_right _ _, e ▸ Nat.add_lt_add_left (by decide) _⟩
    · exact ⟨e ▸ Nat.le_add_right _ _, e ▸ Nat.add_lt_add_left (by decide) _⟩
    · exact ⟨e ▸ Nat.le_add_right _ _, e ▸ Nat.add_lt_add_left (by decide) _⟩
    · exact ⟨e ▸ Nat.le_refl _, e ▸ Nat.lt_add_of_pos_right (by decide)⟩
    · exact ⟨e ▸ Nat.le_add_right _ _, e ▸ Nat.add_lt_add_left (by decide) _⟩
  have hSn : H1 h'.objs.size = none := I2.hok.fresh (Nat.le_refl _)
  refine callType_codes (Q₁ := fun obj s₁ => obj = .ref h'.objs.size ∧ s₁ = { s1 with heap := h'.push { cls := .type "list", data := .seq #[] } }) F.called_list (F.typeCall_list_1 _) F.entry_list_init
    (code_list_new (s := { s1 with heap := h' }) _ ⟨rfl, rfl⟩) fun obj s₁ h₁ => ?_
  obtain ⟨rfl, rfl⟩ := h₁
  have hS : (h'.push { cls := .type "list", data := .seq #[] }).get? h'.objs.size = some { cls := .type "list", data := .seq #[] } := Heap.get?_push_size _ rfl
  have I3 : Inv X pins σ (upd H1 h'.objs.size (.lst [])) { s1 with heap := h'.push { cls := .type "list", data := .seq #[] } } := I2.laid (t' := s1.toks) (fun b u e => Heap.get?_push_of_some _ e) (Nat.le_refl _) ⟨Nat.zero_le _, [], 0, .nil, hS⟩
  refine ⟨⟨_, hS, rfl⟩, F.args_list_init_2 _ _, ?_⟩
  show wpAny _ _ (do let old ← Builtin.List.listItems (.ref h'.objs.size); Builtin.List.listUpdate (.ref h'.objs.size) (fun _ => #[]); letGo old.toList.reverse; Builtin.List.listExtendWith (.ref h'.objs.size) (.ref (s1.heap.objs.size + 4)) .none) _ _ _
  refine wpAny_bind ?_
  unfold Builtin.List.listItems
  refine wpAny_bind (wpAny_seqItems hS rfl (wpAny_pure ?_))
  show wpAny _ _ (updateSeq h'.objs.size (fun _ => #[]) >>= fun _ => letGo (#[] : Array Value).toList.reverse >>= fun _ => Builtin.List.listExtendWith (.ref h'.objs.size) (.ref (s1.heap.objs.size + 4)) .none) _ _ _
  refine wpAny_bind (wpAny_updateSeq hS rfl ?_)
  have hS₂ := Heap.get?_update_self (Obj.mapSeq (fun _ => (#[] : Array Value))) hS rfl
  have oth : ∀ b o, b ≠ h'.objs.size → (h'.push { cls := .type "list", data := .seq #[] }).get? b = some o → ((h'.push { cls := .type "list", data := .seq #[] }).update h'.objs.size (Obj.mapSeq (fun _ => (#[] : Array Value)))).get? b = some o :=
    fun b o hb e => (Heap.get?_update_other _ _ (Ne.symm hb)).trans e
  refine wpAny_bind (wpAny_letGo ?_)
  have I4 : Inv X pins σ (upd (upd H1 h'.objs.size (.lst [])) h'.objs.size (.lst [])) { s1 with heap := (h'.push { cls := .type "list", data := .seq #[] }).update h'.objs.size (Obj.mapSeq (fun _ => (#[] : Array Value))) } :=
    I3.write (x := h'.objs.size) (e := h'.objs.size) (o := .lst []) (t' := s1.toks) (by rw [upd_same]; trivial) (.inl rfl) (fun b u hb q => oth b u hb q) ⟨_, hS₂⟩ ⟨Nat.zero_le _, [], _, .nil, hS₂⟩
  have up : ∀ b o, h'.get? b = some o → ((h'.push { cls := .type "list", data := .seq #[] }).update h'.objs.size (Obj.mapSeq (fun _ => (#[] : Array Value)))).get? b = some o := fun b o e => oth b o (Nat.ne_of_lt (Heap.lt_size e)) (Heap.get?_push_of_some _ e)
  refine zl_extend (X := X) (A := X.A.in1) (R := wants (fun r s₂ => r = Value.none ∧ EP X pins σ Q (Value.ref h'.objs.size) s₂) X.xe) (H0 := H1) (show X.A.in1.handled = none from I1.ok.hd hc) D hSn hq1 hq2 hn I4 (fun b u e => ?_) upd_same (up _ _ hz) (up _ _ hTI) ⟨_, _, up _ _ hTO⟩ (itA_keep (itA_new h1) fun o e => up _ _ e) (itA_keep (itA_new h2) fun o e => up _ _ e) (fun b hb => ?_) hS₂ fun s' H' acc I' sm eS zp => ?_
  · rw [upd_ne (fun z => by rw [z, hSn] at e; cases e), upd_ne (fun z => by rw [z, hSn] at e; cases e)]
    exact e
  · obtain ⟨l1, l2⟩ := hf b hb
    have f := I1.fpOk (H' := upd (upd H1 h'.objs.size (.lst [])) h'.objs.size (.lst [])) l1 (by rw [upd_ne (Nat.ne_of_lt l2), upd_ne (Nat.ne_of_lt l2)]; exact I1.hok.fresh l1)
    exact f
  · exact ⟨rfl, ⟨.ref h'.objs.size, H', I', rfl, q1 _ H' acc hSn sm eS zp⟩⟩
def zipT : List IV → List IV → List IV
  | a :: as, b :: bs => .tup [a, b] :: zipT as bs
  | _, _ => []
theorem zpr_rvs {lv : Addr → Prop} {φ : List Addr} {H : Hp} : ∀ {as bs : List IV} {xs ys acc : List V}, RVs G lv φ H as xs → RVs G lv φ H bs ys → acc.length = min xs.length ys.length →
    (∀ j, j < acc.length → ∃ T x y, acc[j]? = some (.ref T) ∧ xs[j]? = some x ∧ ys[j]? = some y ∧ H T = some (.tup [x, y])) → RVs G lv φ H (zipT as bs) acc
  | [], bs, xs, ys, acc, r1, r2, l, _ => by
    simp only [RVs] at r1
    subst r1
    simp only [zipT, RVs]
    exact List.eq_nil_of_length_eq_zero (by rw [l]; simp)
  | a :: as, [], xs, ys, acc, r1, r2, l, _ => by
    simp only [RVs] at r2
    subst r2
    simp only [zipT, RVs]
    exact List.eq_nil_of_length_eq_zero (by rw [l]; simp)
  | a :: as, b :: bs, xs, ys, acc, r1, r2, l, hj => by
    simp only [RVs] at r1 r2
    obtain ⟨x, xs', rfl, ra, r1⟩ := r1
    obtain ⟨y, ys', rfl, rb, r2⟩ := r2
    cases acc with
    | nil => simp only [List.length_nil, List.length_cons] at l; omega
    | cons c acc =>
      obtain ⟨T, x', y', e1, e2, e3, e4⟩ := hj 0 (by simp)
      simp only [List.getElem?_cons_zero, Option.some.injEq] at e1 e2 e3
      subst e1 e2 e3
      simp only [zipT, RVs, RV]
      refine ⟨_, _, rfl, ⟨T, _, rfl, SqT.of e4, x, _, rfl, ra, y, _, rfl, rb, rfl⟩, zpr_rvs r1 r2 (by simp only [List.length_cons] at l; omega) fun j hlt => ?_⟩
      obtain ⟨T', x', y', e1, e2, e3, e4⟩ := hj (j + 1) (by simp; omega)
      exact ⟨T', x', y', by simpa using e1, by simpa using e2, by simpa using e3, e4⟩
def mLz (fa : Ma) : Mv := fun env h => (fa env h).bind fun xs h1 => match xs with
  | [x, y] => match skI (view h1 x), skI (view h1 y) with
    | some as, some bs => if min as.length bs.length ≤ sizeLine then .ok (.lst (zipT as bs)) h1 else .bad
    | _, _ => .bad
  | _ => .bad
theorem s_lz {fa : Ma} (hK : G.K = X.K) (hc : X.calm = true) (hg0 : Gl X "list") (hm0 : X.mg "list" = none) (hg : Gl X "zip") (hm : X.mg "zip" = none) (ha : PA X [e, e2] (rA G fa))
    (hs : starEach [e, e2] X.env = (false, eval e X.env) :: starEach [e2] X.env := by rfl) (hpl : (backTo q (starEach [e2] X.env)).any (·.1) = false := by rfl) :
    PE X (.Call (.Name "list" p) [.Call (.Name "zip" p2) [e, e2] [] q] [] pos) (rE G (mLz fa)) := by
  refine PEimp (pe_lz hc hg0 hm0 hg hm ha hs hpl) fun σ H Q ⟨O, h, φ, env, R, E, P⟩ => ?_
  refine ⟨O, h, φ, env, R, E, (P.bind (rel := relA G)).mono fun vs H1 ⟨xs, h1, φ1, _, g1, r1, P1⟩ => ?_⟩
  match xs, r1, P1 with
  | [x, y], r1, P1 =>
    have P1 : Post (relV G) G O h1 φ1 H1 (match skI (view h1 x), skI (view h1 y) with
      | some as, some bs => if min as.length bs.length ≤ sizeLine then .ok (.lst (zipT as bs)) h1 else .bad
      | _, _ => .bad) Q := P1
    obtain ⟨v, u, rfl, rx, ry⟩ := rvs2 r1
    cases ex : skI (view h1 x) with
    | none =>
      simp only [ex] at P1
      exact P1.elim
    | some as =>
      cases ey : skI (view h1 y) with
      | none =>
        simp only [ex, ey] at P1
        exact P1.elim
      | some bs =>
        simp only [ex, ey] at P1
        obtain ⟨k1, xs1, rfl, ra, q1⟩ := skw_of g1.rep rx ex
        obtain ⟨k2, xs2, rfl, rb, q2⟩ := skw_of g1.rep ry ey
        by_cases hn : min as.length bs.length ≤ sizeLine
        · rw [if_pos hn] at P1
          refine ⟨k1, k2, xs1, xs2, rfl, hK ▸ q1, hK ▸ q2, by rw [ra.length, rb.length]; exact hn, fun S H' acc hS sm eS zp => ?_⟩
          have g2 := Go.same g1.rep sm
          refine P1 φ1 H' _ g2 ?_
          have nl : ¬ Lv O h1 φ1 S := fresh_lv g1.rep.ok hS
          simp only [relV, RV]
          refine ⟨S, acc, rfl, nl, eS, zpr_rvs (RVs.mono g2.ext g1.rep.ok _ ra) (RVs.mono g2.ext g1.rep.ok _ rb) zp.1 fun j hj => ?_⟩
          obtain ⟨T, x', y', _, z⟩ := zp.2 j (zp.1 ▸ hj)
          exact ⟨T, x', y', z⟩
        · rw [if_neg hn] at P1
          exact P1.elim
  | [], _, P1 => exact P1.elim
  | [_], _, P1 => exact P1.elim
  | _ :: _ :: _ :: _, _, P1 => exact P1.elim
end
end Iv

/-! IvY: new objects that are written later: xs * n, dict(pairs), {k: v for ..}; tuple(range(..)). -/
namespace Iv
open PySem PySem.Spec PyProof.Rows L2

section
variable {X : Cx} {G : Gx}
/-- what lies last is read at its place -/
theorem at_last {h : IH} {φ : List Addr} {p : Addr} (l : φ.length = h.length) : (φ ++ [p])[h.length]? = some p := by
  rw [← l, List.getElem?_append_right (Nat.le_refl _)]
  simp
/-- xs * n, a list that is written later -/
def mRepN (fa fb : Mv) : Mv := fun env h => (fa env h).bind fun x h1 => (fb env h1).bind fun y h2 => match view h2 x, y with
  | .lst xs, .int k => if -(2 ^ 63) ≤ k ∧ k < 2 ^ 63 ∧ xs.length * k.toNat ≤ sizeLine then .ok (.ref h2.length) (h2 ++ [some (.lst (repI k.toNat xs))]) else .bad
  | _, _ => .bad
theorem s_repN {a b : Expr} {pos : Pos} {fa fb : Mv} (ha : PE X a (rE G fa)) (hb : PE X b (rE G fb)) : PE X (.BinOp a .Mult b pos) (rE G (mRepN fa fb)) := by
  refine PEimp (pe_op op_rep ha hb) fun σ H Q ⟨O, h, φ, env, R, E, P⟩ => ?_
  refine ⟨O, h, φ, env, R, E, (P.bind (rel := relV G)).mono fun v H1 ⟨x, h1, φ1, _, g1, r1, P1⟩ => ?_⟩
  refine ⟨O, h1, φ1, env, g1.rep, E.go R g1, (P1.bind (rel := relV G)).mono fun u H2 ⟨y, h2, φ2, _, g2, r2, P2⟩ => ?_⟩
  have w := RW.view g2.rep (relV.go g1.rep g2 r1)
  cases q : view h2 x with
  | lst xs =>
    cases y with
    | int k =>
      simp only [q] at P2
      rw [q] at w
      obtain ⟨p, vs, rfl, hp, rv⟩ := w
      simp only [relV, RV] at r2
      by_cases c : -(2 ^ 63) ≤ k ∧ k < 2 ^ 63 ∧ xs.length * k.toNat ≤ sizeLine
      · rw [if_pos c] at P2
        refine ⟨p, k, vs, rfl, r2, hp, c.1, c.2.1, by rw [rv.length]; exact c.2.2, fun p n => ?_⟩
        have al := g2.rep.alloc (o := .lst (repI k.toNat xs)) (ho := .lst (List.replicate k.toNat vs).flatten) n trivial fun lv φ' xx => ⟨_, upd_same, RVs.mono xx g2.rep.ok _ (RVs.rep rv _)⟩
        refine P2 (φ2 ++ [p]) _ _ al ?_
        simp only [relV, RV]
        exact ⟨p, at_last g2.rep.len, rfl⟩
      · rw [if_neg c] at P2
        exact P2.elim
    | _ =>
      simp only [q] at P2
      exact P2.elim
  | _ =>
    simp only [q] at P2
    exact P2.elim

/-! ### dict(pairs) -/
def rDictP (K : PySem.W.Frag) : List V → Hp → VK → Prop := fun xs H Q => ∃ (a : Addr) (ps : List Addr) (kvs : List (Key × V)), xs = [.ref a] ∧ SqL K H a (ps.map V.ref) ∧ Paired (fun p kv => SqT K H p [kV kv.1, kv.2]) ps kvs ∧
    ∀ p, H p = none → Q (.ref p) (upd H p (.dK (mergeK [] kvs)))
def dmrg : List IV → List IV → List IV → Option (List IV × List IV)
  | [], ks, vs => some (ks, vs)
  | .tup [k, v] :: r, ks, vs => match kI k with
    | some kk => dmrg r (dputI k kk v ks vs).1 (dputI k kk v ks vs).2
    | none => none
  | _ :: _, _, _ => none
def bDict : Bf := fun xs h => match xs with
  | [x] => match (lstI (view h x)).bind fun ps => dmrg ps [] [] with
    | some r => .ok (.ref h.length) (h ++ [some (.dic r.1 r.2)])
    | none => .bad
  | _ => .bad
theorem dmrg_ok {lv : Addr → Prop} {φ : List Addr} {H : Hp} : ∀ {ps : List IV} {us : List V} {ks vs : List IV} {r : List IV × List IV} {kvs : List (Key × V)}, RVs G lv φ H ps us → Prs G lv φ H ks vs kvs → dmrg ps ks vs = some r →
    ∃ (as : List Addr) (more : List (Key × V)), us = as.map V.ref ∧ Paired (fun p kv => SqT G.K H p [kV kv.1, kv.2]) as more ∧ Prs G lv φ H r.1 r.2 (mergeK kvs more)
  | [], us, ks, vs, r, kvs, ru, t, e => by
    simp only [RVs] at ru
    simp only [dmrg, Option.some.injEq] at e
    subst ru e
    exact ⟨[], [], rfl, .nil, t⟩
  | x :: ps, us, ks, vs, r, kvs, ru, t, e => by
    simp only [RVs] at ru
    obtain ⟨u, us', rfl, rx, ru⟩ := ru
    match x, rx, e with
    | .tup [k, v], rx, e =>
      simp only [dmrg] at e
      cases ek : kI k with
      | none =>
        rw [ek] at e
        cases e
      | some kk =>
        rw [ek] at e
        simp only [RV, RVs] at rx
        obtain ⟨p, _, rfl, hq, k', _, rfl, rk, v', _, rfl, rv, rfl⟩ := rx
        have ek' := kI_of rk ek
        subst ek'
        obtain ⟨as, more, e1, e2, e3⟩ := dmrg_ok ru (t.put ek rk rv) e
        exact ⟨p :: as, (kk, v') :: more, by rw [e1]; rfl, .cons hq e2, e3⟩
    | .tup [], _, e => simp only [dmrg] at e; cases e
    | .tup [_], _, e => simp only [dmrg] at e; cases e
    | .tup (_ :: _ :: _ :: _), _, e => simp only [dmrg] at e; cases e
    | .non, _, e => simp only [dmrg] at e; cases e
    | .bl _, _, e => simp only [dmrg] at e; cases e
    | .int _, _, e => simp only [dmrg] at e; cases e
    | .str _, _, e => simp only [dmrg] at e; cases e
    | .lst _, _, e => simp only [dmrg] at e; cases e
    | .dic _ _, _, e => simp only [dmrg] at e; cases e
    | .dcn _ _, _, e => simp only [dmrg] at e; cases e
    | .ins _ _ _, _, e => simp only [dmrg] at e; cases e
    | .rdl _, _, e => simp only [dmrg] at e; cases e
    | .tpx _, _, e => simp only [dmrg] at e; cases e
    | .rng _ _, _, e => simp only [dmrg] at e; cases e
    | .ref _, _, e => simp only [dmrg] at e; cases e
theorem b_dict : BF G (rDictP G.K) bDict := by
  intro O h φ H xs vs Q R r P
  unfold bDict at P
  split at P
  · rename_i x
    obtain ⟨v, rfl, ra⟩ := rvs1 r
    split at P
    · rename_i rr e
      obtain ⟨ps, e1, e2⟩ := Option.bind_eq_some_iff.mp e
      obtain ⟨p, us, rfl, ru, hq⟩ := lstw_of R ra e1
      obtain ⟨as, more, rfl, e4, e5⟩ := dmrg_ok ru .nil e2
      refine ⟨p, as, more, rfl, hq, e4, fun p n => ?_⟩
      have al := R.alloc (o := .dic rr.1 rr.2) (ho := .dK (mergeK [] more)) n trivial fun lv φ' xx => (e5.mono xx R.ok).ro upd_same
      refine P (φ ++ [p]) _ _ al ?_
      simp only [relV, RV]
      exact ⟨p, at_last R.len, rfl⟩
    · exact P.elim
  · exact P.elim

/-! ### tuple(range(..)) -/
def rgI (a b : Int) : List IV := (List.range (b - a).toNat).map fun i => .int (a + (i : Nat))
theorem rvs_ints {lv : Addr → Prop} {φ : List Addr} {H : Hp} (f : Nat → Int) : ∀ l : List Nat, RVs G lv φ H (l.map fun i => .int (f i)) (l.map fun i => V.int (f i))
  | [] => by simp [RVs]
  | i :: l => by
    simp only [List.map_cons, RVs, RV]
    exact ⟨_, _, rfl, rfl, rvs_ints f l⟩
theorem rvs_rg {lv : Addr → Prop} {φ : List Addr} {H : Hp} (a b : Int) : RVs G lv φ H (rgI a b) (rgV a b) := rvs_ints (fun i => a + (i : Nat)) _
def mTupRg (f : Mv) : Mv := fun env h => (f env h).bind fun x h1 => match x with
  | .int n => if -(2 ^ 62) ≤ n ∧ n < 2 ^ 24 then .ok (.tup (rgI 0 n)) h1 else .bad
  | _ => .bad
theorem s_tupRg {e : Expr} {p p2 q pos : Pos} {f : Mv} (hc : X.calm = true) (hg : Gl X "tuple") (hm : X.mg "tuple" = none) (hg2 : Gl X "range") (hm2 : X.mg "range" = none) (he : PE X e (rE G f)) (na : starEach [e] X.env = (false, eval e X.env) :: starEach [] X.env := by rfl) :
    PE X (.Call (.Name "tuple" p) [.Call (.Name "range" p2) [e] [] q] [] pos) (rE G (mTupRg f)) := by
  refine PEimp (pe_tupRg hc hg hm (prg_1 hg2 hm2 he na)) fun σ H Q ⟨O, h, φ, env, R, E, P⟩ => ?_
  refine ⟨O, h, φ, env, R, E, (P.bind (rel := relV G)).mono fun v H1 ⟨x, h1, φ1, _, g1, r1, P1⟩ => ?_⟩
  cases x with
  | int n =>
    simp only [relV, RV] at r1
    subst r1
    by_cases c : -(2 ^ 62) ≤ n ∧ n < 2 ^ 24
    · have P2 : Post (relV G) G O h1 φ1 H1 (.ok (.tup (rgI 0 n)) h1) Q := by
        have P1 : Post (relV G) G O h1 φ1 H1 (if -(2 ^ 62) ≤ n ∧ n < 2 ^ 24 then .ok (.tup (rgI 0 n)) h1 else .bad) Q := P1
        rw [if_pos c] at P1
        exact P1
      refine ⟨n, rfl, ⟨by omega, by omega, by omega, by omega, by omega⟩, fun q n' => P2 φ1 _ _ (Go.same g1.rep (same_upd n')) (RV.newT g1.rep.ok n' (rvs_rg 0 n))⟩
    · have P1 : Post (relV G) G O h1 φ1 H1 (if -(2 ^ 62) ≤ n ∧ n < 2 ^ 24 then .ok (.tup (rgI 0 n)) h1 else .bad) Q := P1
      rw [if_neg c] at P1
      exact P1.elim
  | _ => exact P1.elim

/-! ### {k: v for .. for ..}, written later -/
section
variable {kx vx tg iter tg1 iter1 : Expr} {ifs ifs1 : List Expr} {scope : Scope} {own : List (Str × Nat)} {pos spos : Pos} {src src1 : Mi} {g g1 : Mg} {ws ws1 vs1 : List Nat} {c c1 : Mb} {fk fv : Mv}
def mDk2n (src : Mi) (g : Mg) (own : List Nat) (c : Mb) (src1 : Mi) (g1 : Mg) (vs1 : List Nat) (c1 : Mb) (fk fv : Mv) : Mv := fun env h => (src env h).bind fun xs h1 =>
  (lp1 g c (inC src1 g1 c1 (fDk fk fv) vs1) (wipeI env own) xs ([], []) h1).bind fun r h2 => .ok (.ref h2.length) (h2 ++ [some (.dcn r.1 r.2)])
/-- what stood outside is taken in -/
theorem Rep.takeIn {O : Addr → Prop} {h : IH} {φ : List Addr} {H : Hp} {D : Addr} {ho : HO} {o : IO} (R : Rep G (Oth O D) h φ H) (nO : ¬ O D)
    (new : ∀ lv φ', Ext (Lv (Oth O D) h φ) φ H lv φ' H → RO G lv φ' H D o) :
    Rep G O (h ++ [some o]) (φ ++ [D]) H ∧ Ext (Lv (Oth O D) h φ) φ H (Lv O (h ++ [some o]) (φ ++ [D])) (φ ++ [D]) H := by
  have nd : ∀ (i : Nat) (b : Addr) (u : IO), h[i]? = some (some u) → φ[i]? = some b → b ≠ D := fun i b u e1 e2 z => R.dis i b u e1 e2 (.inr z)
  have old : ∀ (i : Nat) (b : Addr) (u : IO), (h ++ [some o])[i]? = some (some u) → (φ ++ [D])[i]? = some b → (i = h.length ∧ b = D ∧ u = o) ∨ (h[i]? = some (some u) ∧ φ[i]? = some b) := fun i b u e1 e2 => by
    by_cases hi : i < h.length
    · rw [List.getElem?_append_left hi] at e1
      rw [List.getElem?_append_left (by rw [R.len]; exact hi)] at e2
      exact .inr ⟨e1, e2⟩
    · have hi2 : i = h.length := by
        have := (List.getElem?_eq_some_iff.mp e1).1
        simp at this
        omega
      subst hi2
      rw [List.getElem?_append_right (Nat.le_refl _)] at e1
      rw [at_last R.len] at e2
      simp at e1
      exact .inl ⟨rfl, (Option.some.inj e2).symm, e1.symm⟩
  have x : Ext (Lv (Oth O D) h φ) φ H (Lv O (h ++ [some o]) (φ ++ [D])) (φ ++ [D]) H := by
    refine ⟨fun b u e _ => e, fun b u e nl l => ?_, [D], rfl⟩
    rcases l with l | ⟨i, u', e1, e2⟩
    · exact nl (.inl (.inl l))
    · rcases old i b u' e1 e2 with ⟨_, rfl, _⟩ | ⟨f1, f2⟩
      · exact nl (.inl (.inr rfl))
      · exact nl (.inr ⟨i, u', f1, f2⟩)
  refine ⟨⟨by rw [List.length_append, List.length_append, R.len]; rfl, fun i j b u u' e1 e2 e3 e4 => ?_, fun b ob => R.out b (.inl ob), fun i b u e1 e2 ob => ?_, fun i u b e1 e2 => ?_⟩, x⟩
  · rcases old i b u e3 e1 with ⟨rfl, rfl, _⟩ | ⟨f1, f2⟩
    · rcases old j b u' e4 e2 with ⟨rfl, _, _⟩ | ⟨g1, g2⟩
      · rfl
      · exact absurd rfl (nd j b u' g1 g2)
    · rcases old j b u' e4 e2 with ⟨rfl, rfl, _⟩ | ⟨g1, g2⟩
      · exact absurd rfl (nd i b u f1 f2)
      · exact R.nd i j b _ _ f2 g2 f1 g1
  · rcases old i b u e1 e2 with ⟨_, rfl, _⟩ | ⟨f1, f2⟩
    · exact nO ob
    · exact R.dis i b u f1 f2 (.inl ob)
  · rcases old i b u e1 e2 with ⟨_, rfl, rfl⟩ | ⟨f1, f2⟩
    · exact new _ _ x
    · exact (R.obj i u b f1 f2).mono x R.ok rfl
theorem dk2n_rd {σ : L2.St} {H : Hp} {Q : VK} (hw : ∀ i ∈ ws, i ∈ own.map (·.2)) (hw1 : ∀ i ∈ ws1, i ∈ vs1) (q : rE G (mDk2n src g (own.map (·.2)) c src1 g1 vs1 c1 fk fv) σ H Q) : tDk2 G (rI G src) (rG G ws g) (rT G c) (rI G src1) (rG G ws1 g1) (rT G c1) (rE G fk) (rE G fv) (own.map (·.2)) vs1 σ H Q := by
  obtain ⟨O, h, φ, env, R, E, P⟩ := q
  refine ⟨O, h, φ, env, R, E, (P.bind (rel := relI G)).mono fun J H1 ⟨xs, h1, φ1, _, gg1, it, P1⟩ D o0 nD n0 => ?_⟩
  cases q : lp1 g c (inC src1 g1 c1 (fDk fk fv) vs1) (wipeI env (own.map (·.2))) xs ([], []) h1 with
  | bad =>
    rw [q] at P1
    exact P1.elim
  | ok r h2 =>
    rw [q] at P1
    have R1 := gg1.rep
    have nO : ¬ O D := fun o => by
      have m := R1.out D o
      rw [nD] at m
      exact m
    have sub : ∀ a, O a → Oth O D a := fun a o => .inl o
    have dD : Oth O D D := .inr rfl
    have w0 := R1.outer (ho := dno D o0) nD trivial
    let Pk : IH → List Addr → Hp → List IV × List IV → Prop := fun h φ H a => GoW G O (Oth O D) h1 φ1 H1 h φ H ∧ ∃ xs, NAt G.P G.w H D xs ∧ PrN G (Lv (Oth O D) h φ) φ H a.1 a.2 xs
    have hgo : ∀ h φ H a h' φ' H', Pk h φ H a → Go G (Oth O D) h φ H h' φ' H' → Pk h' φ' H' a := by
      rintro h φ H a h' φ' H' ⟨w, xs, e1, e2⟩ gg
      exact ⟨w.go sub gg, xs, e1.at (gg.outk D dD), e2.mono gg.ext w.rep.ok⟩
    refine lp1_run (O' := Oth O D) (lvb := Lv O h1 φ1) (φb := φ1) (Hb := H1) Pk (emIn (rI G src1) (rG G ws1 g1) (rT G c1) vs1 (emDk G (rE G fk) (rE G fv) D)) R1.ok (E.go R gg1) it hw (fun h φ H a q => q.1.rep) (fun h φ H a q => q.1.ext) hgo
      (in_em Pk (emDk G (rE G fk) (rE G fv) D) hw1 (fun h φ H a q => q.1.rep) hgo ?_) ⟨w0, [], n0, .nil⟩ q ?_
    · intro env σ h φ H a a' h' ⟨w, xs, e1, e2⟩ EE run Nx nx
      obtain ⟨k, h3, e3, run⟩ := bind_ok run
      obtain ⟨z, h4, e4, run⟩ := bind_ok run
      refine ⟨Oth O D, h, φ, env, w.rep, EE, post_ok e3 fun φ3 H3 v g3 rk => ⟨Oth O D, h3, φ3, env, g3.rep, EE.go w.rep g3, post_ok e4 fun φ4 H4 u g4 rz => ?_⟩⟩
      have w3 := w.go sub g3
      have w4 := w3.go sub g4
      have rk' : RV G (Lv (Oth O D) h4 φ4) φ4 H4 k v := relV.go w3.rep g4 rk
      have rz' : RV G (Lv (Oth O D) h4 φ4) φ4 H4 z u := rz
      cases qk : nkey k with
      | none =>
        simp only [qk] at run
        cases run
      | some kk =>
        simp only [qk] at run
        by_cases hz : a.1.length < sizeLine
        · rw [if_pos hz] at run
          cases run
          obtain ⟨b, rfl⟩ := nkey_ref qk rk'
          have t4 := (e2.mono g3.ext w.rep.ok).mono g4.ext w3.rep.ok
          have n4 := (e1.at (g3.outk D dD)).at (g4.outk D dD)
          refine ⟨_, φ4, a.1, a.2, xs, kk, ⟨D, b, k, rfl, rfl, n4, t4, rk', qk⟩, by rw [t4.len]; exact hz, fun b' u' o' eb ru nn => ?_⟩
          cases eb
          obtain ⟨_, x5, _⟩ := w4.rep.outset (ho := dno D o') dD nO trivial sub
          exact nx φ4 _ ⟨w4.set dD nO trivial sub, _, nn, (t4.put qk rk' rz' ru).mono x5 w4.rep.ok⟩ ((g3.ext.trans g4.ext).trans x5)
        · rw [if_neg hz] at run
          cases run
    · rintro φ2 H2 ⟨w, xs, e1, e2⟩
      have tk := w.rep.takeIn (ho := dno D o0) (o := .dcn r.1 r.2) nO fun lv φ' xx => (e2.mono xx w.rep.ok).ro e1
      refine P1 (φ2 ++ [D]) H2 _ ⟨tk.1, w.ext.trans tk.2, w.outk⟩ ?_
      simp only [relV, RV]
      exact ⟨D, at_last w.rep.len, rfl⟩
theorem s_dk2n (hK : G.K = X.K) (hP : G.P = X.prog) (hW : G.w = X.w) (hu : X.A.units + 64 < cLine) (hc : X.calm = true) (hN : X.N.Nodup) (hi : PI X tg iter (rI G src)) (ok : BlkOk X.N X.env.scope scope own) (hw : ∀ i ∈ ws, i ∈ own.map (·.2)) (hw1 : ∀ i ∈ ws1, i ∈ vs1) (hv : ∀ i ∈ vs1, i ∈ own.map (·.2))
    (hg : ∀ (s : Shared) (H : Hp) (C : Addr) (cl : List (Str × Addr)) (fp : List Addr), PG (X.blk s H scope (compEnvC scope cl C X.env) fp) tg (rG G ws g)) (ht : ∀ (s : Shared) (H : Hp) (C : Addr) (cl : List (Str × Addr)) (fp : List Addr), PTs (X.blk s H scope (compEnvC scope cl C X.env) fp) ifs (rT G c))
    (hi1 : ∀ (s : Shared) (H : Hp) (C : Addr) (cl : List (Str × Addr)) (fp : List Addr), PI (X.blk s H scope (compEnvC scope cl C X.env) fp) tg1 iter1 (rI G src1))
    (hg1 : ∀ (s : Shared) (H : Hp) (C : Addr) (cl : List (Str × Addr)) (fp : List Addr), PG (X.blk s H scope (compEnvC scope cl C X.env) fp) tg1 (rG G ws1 g1)) (ht1 : ∀ (s : Shared) (H : Hp) (C : Addr) (cl : List (Str × Addr)) (fp : List Addr), PTs (X.blk s H scope (compEnvC scope cl C X.env) fp) ifs1 (rT G c1))
    (hk : ∀ (s : Shared) (H : Hp) (C : Addr) (cl : List (Str × Addr)) (fp : List Addr), PE (X.blk s H scope (compEnvC scope cl C X.env) fp) kx (rE G fk))
    (he : ∀ (s : Shared) (H : Hp) (C : Addr) (cl : List (Str × Addr)) (fp : List Addr), PE (X.blk s H scope (compEnvC scope cl C X.env) fp) vx (rE G fv)) (hs : ∀ x, foldedSetIterable iter X.env x = pure x := by intro _; rfl) (hs1 : ∀ env x, foldedSetIterable iter1 env x = pure x := by intro _ _; rfl) :
    PE X (.DictComp kx vx [⟨tg, iter, ifs, 0⟩, ⟨tg1, iter1, ifs1, 0⟩] scope pos) (rE G (mDk2n src g (own.map (·.2)) c src1 g1 vs1 c1 fk fv)) :=
  PEimp (pe_dk2 hK hP hW hu hc hN hi ok hv hg ht hi1 hg1 ht1 hk he hs hs1) fun σ H Q q => dk2n_rd hw hw1 q
theorem s_setDk2n {i : Nat} {y : Str} {py : Pos} (hK : G.K = X.K) (hP : G.P = X.prog) (hW : G.w = X.w) (hu : X.A.units + 64 < cLine) (hc : X.calm = true) (hN : X.N.Nodup) (hy : X.N[i]? = some y) (hyl : X.env.scope.names.lookup y = some .local)
    (hsw : swapsWith (.DictComp kx vx [⟨tg, iter, ifs, 0⟩, ⟨tg1, iter1, ifs1, 0⟩] scope pos) (some (.Name y py)) spos.line X.env = pure true) (hi : PI X tg iter (rI G src)) (ok : BlkOk X.N X.env.scope scope own) (hw : ∀ i ∈ ws, i ∈ own.map (·.2)) (hw1 : ∀ i ∈ ws1, i ∈ vs1) (hv : ∀ i ∈ vs1, i ∈ own.map (·.2))
    (hg : ∀ (s : Shared) (H : Hp) (C : Addr) (cl : List (Str × Addr)) (fp : List Addr), PG (X.blk s H scope (compEnvC scope cl C X.env) fp) tg (rG G ws g)) (ht : ∀ (s : Shared) (H : Hp) (C : Addr) (cl : List (Str × Addr)) (fp : List Addr), PTs (X.blk s H scope (compEnvC scope cl C X.env) fp) ifs (rT G c))
    (hi1 : ∀ (s : Shared) (H : Hp) (C : Addr) (cl : List (Str × Addr)) (fp : List Addr), PI (X.blk s H scope (compEnvC scope cl C X.env) fp) tg1 iter1 (rI G src1))
    (hg1 : ∀ (s : Shared) (H : Hp) (C : Addr) (cl : List (Str × Addr)) (fp : List Addr), PG (X.blk s H scope (compEnvC scope cl C X.env) fp) tg1 (rG G ws1 g1)) (ht1 : ∀ (s : Shared) (H : Hp) (C : Addr) (cl : List (Str × Addr)) (fp : List Addr), PTs (X.blk s H scope (compEnvC scope cl C X.env) fp) ifs1 (rT G c1))
    (hk : ∀ (s : Shared) (H : Hp) (C : Addr) (cl : List (Str × Addr)) (fp : List Addr), PE (X.blk s H scope (compEnvC scope cl C X.env) fp) kx (rE G fk))
    (he : ∀ (s : Shared) (H : Hp) (C : Addr) (cl : List (Str × Addr)) (fp : List Addr), PE (X.blk s H scope (compEnvC scope cl C X.env) fp) vx (rE G fv)) (hs : ∀ x, foldedSetIterable iter X.env x = pure x := by intro _; rfl) (hs1 : ∀ env x, foldedSetIterable iter1 env x = pure x := by intro _ _; rfl) :
    PS X (.Assign [.Name y py] (.DictComp kx vx [⟨tg, iter, ifs, 0⟩, ⟨tg1, iter1, ifs1, 0⟩] scope pos) spos) (rS G (mSet i (mDk2n src g (own.map (·.2)) c src1 g1 vs1 c1 fk fv))) :=
  PSimp (ps_setDk2 hK hP hW hu hc hN hy hyl hsw hi ok hv hg ht hi1 hg1 ht1 hk he hs hs1) fun D σ H q => set_rd (fun _ _ _ q => dk2n_rd hw hw1 q) q
end
end
end Iv

/-! IvZ: == and != of instances by their own __eq__. -/
namespace Iv
open PySem PySem.Spec PyProof.Rows L2 PySem.W

theorem one_bind (self : Value) : bindSpecial (.builtin "object.__ne__") self = pure (.builtin "object.__ne__", [self]) :=
  (Slot.of (T := "object") (name := "__ne__") (owner := "object") (n := "__ne__") (by rw [typeLookup_type, builtinLookup_eq_fast]; kernel_rfl) (by decide +kernel) (by decide +kernel) (by decide +kernel)
    (.inl (by decide +kernel)) (by rw [isSubtype_type]; kernel_rfl)).bind self
section
variable {prog : Program} {w : World} {A : Around} {E : Value → Shared → Prop} {s : Shared} {K : Frag} {x C f : Addr} {ox : Obj} {od : Option Obj} {b tb : Value}
theorem ne_K {Q : Value → Shared → Prop} (hu : A.units + 1 < cLine) (X : K.In s.heap) (I : InstAt s.heap x ox C od) (hb : Looks (model prog w) s.heap (typeOf b) tb) (hn : notFirst K C tb = true)
    (hne : findIn K (.ref C) "__ne__" = some (some (.builtin "object.__ne__"))) (hm : mroIn K C (.type "object") = some true) (hs : findIn K (.ref C) "__eq__" = some (some (.ref f))) (hf : isFn K (.ref f) = true)
    (h : wpAny (model prog w) A.in1 (call (.ref f) [.ref x, b]) (fun v s' => ∃ c, v = .bool c ∧ Q (.bool (!c)) s') E s) : wpAny (model prog w) A (richCompare .NotEq (.ref x) b) Q E s := by
  have sub : Looks (model prog w) s.heap (isInstance (.ref x) (.type "object")) true := I.type.andThen (looks_mroIn X hm)
  have hu0 : A.units < cLine := Nat.lt_of_succ_lt hu
  have body : wpAny (model prog w) A (call (.builtin "object.__ne__") [.ref x, b]) (fun v s' => ∃ c, v = .bool c ∧ Q (.bool c) s') E s := by
    refine wpAny_call (codeAny_call_builtin (by decide +kernel) PySem.F.cmpEntry_ne (@check_slot (model prog w) _ _ s "object.__ne__" "object" "__ne__" (.ref x) [b] [] _ PySem.F.cmpKind_ne PySem.F.cmpSplit_ne sub (PySem.F.cmpArgs_ne (.ref x) b) ?_))
    show wpAny _ _ (cRoomFor "comparison" [.ref x, b] >>= _) _ _ _
    refine wpAny_bind (wpAny_cRoomFor (by show A.units + 1 < cLine; exact hu) ?_)
    refine wpAny_bind (ifBound_K X I hs hf (wpAny_mono h (fun v s' ⟨c, e, q⟩ => ?_) fun _ _ e => e))
    subst e
    show wpAny _ _ (truthy (.bool c) >>= _) _ _ _
    refine wpAny_bind (wpAny_pure ?_)
    exact wpAny_pure ⟨_, rfl, q⟩
  have one : wpAny (model prog w) A (tryCompare (.ref x) "__ne__" b) (fun r s' => ∃ v, r = some v ∧ Q v s') E s := by
    unfold tryCompare
    refine wpAny_bind ?_
    simp only [callSpecialIfBound?, bindSpecialIfBound?]
    refine wpAny_holding (wpAny_bind (wpAny_bind (wpAny_bind (I.type.here ((looks_findIn X hne).here ?_)))))
    refine wpAny_bind (wpAny_askSetting (wpAny_ite ?_))
    have fin : wpAny (model prog w) A (call (.builtin "object.__ne__") ([.ref x] ++ [b]) >>= fun v => pure (some v)) (fun r s' => wpAny (model prog w) A (match r with | some .notImplemented | none => pure none | some v => pure (some v)) (fun r s' => ∃ v, r = some v ∧ Q v s') E s') E s :=
      wpAny_bind (wpAny_mono body (fun v s' ⟨c, e, q⟩ => wpAny_pure (by subst e; exact wpAny_pure ⟨_, rfl, q⟩)) fun _ _ h' => h')
    split
    · rw [one_bind]
      exact wpAny_bind (wpAny_pure (wpAny_pure fin))
    · rw [one_bind]
      exact wpAny_tryCatch (wpAny_bind (wpAny_pure (wpAny_pure fin)))
  unfold richCompare
  simp only [oneThing_ref]
  refine wpAny_holding (wpAny_bind (wpAny_cRoomFor hu0 ?_))
  refine wpAny_bind (I.type.here (wpAny_bind (hb.here ?_)))
  split
  · rename_i q
    have e : subIn K tb (.ref C) = some false := by
      rcases Bool.or_eq_true_iff.mp hn with e | e
      · rw [beq_iff_eq.mp e] at q; simp at q
      · exact beq_iff_eq.mp e
    refine wpAny_bind ((looks_subIn X e).here ?_)
    simp only [Bool.false_eq_true, if_false]
    refine wpAny_bind (wpAny_mono one (fun r s' z => ?_) fun _ _ e => e)
    obtain ⟨v, rfl, hq⟩ := z
    exact wpAny_pure hq
  · refine wpAny_bind (wpAny_pure ?_)
    simp only [Bool.false_eq_true, if_false]
    refine wpAny_bind (wpAny_mono one (fun r s' z => ?_) fun _ _ e => e)
    obtain ⟨v, rfl, hq⟩ := z
    exact wpAny_pure hq
end
/-- what the class must give -/
structure OwnEq (K : Frag) (C f : Addr) : Prop where
  eq : findIn K (.ref C) "__eq__" = some (some (.ref f))
  ne : findIn K (.ref C) "__ne__" = some (some (.builtin "object.__ne__"))
  mro : mroIn K C (.type "object") = some true
  fn : isFn K (.ref f) = true
section
variable {X : Cx} {G : Gx} {C f : Addr} {fd : FuncData} {ps : List Str} {k : Nat} {m : List IV → Option IV} {E : XK}
theorem own_run {pins : List (Addr × Obj)} {s : Shared} {σ : L2.St} {H : Hp} {A : Around} {a b : Addr} {Q : VK} (F : FnOk X.prog X.w X.K X.mg X.base CX0 k f fd ps (spP G 2 m)) (hb : Binds X.K fd ps []) (hx : Passes CX0 X E) (sb : Sub X k A) (I : Inv X pins σ H s)
    (hs : spP G 2 m [.ref a, .ref b] H Q E) : wpAny (model X.prog X.w) A (call (.ref f) [.ref a, .ref b]) (fun v s' => ∃ z H', Inv X pins σ H' s' ∧ RelV z v ∧ Q z H') X.xe s := by
  have e0 : Env0 X.prog X.w X.K X.mg X.base A X.stack s H := by
    have e := I.env0
    exact ⟨by rw [sb.fr]; exact e.frames, e.mod, e.bs, e.bsz, e.funs, e.frf, e.hok, e.bare⟩
  have hl := F.len _ _ _ _ hs
  have r2 : Vals [V.ref a, V.ref b] [Value.ref a, Value.ref b] := .cons rfl (.cons rfl .nil)
  refine wpAny_call (codeAny_mono (F.run A X.stack s H ⟨[.ref a, .ref b], []⟩ [.ref a, .ref b] [.ref a, .ref b] _ E sb.room e0 (by
    have := hb s [.ref a, .ref b] I.kIn (by simpa using hl)
    simpa using this) r2 hs) fun r s' hq => ?_)
  cases r with
  | error e => exact hx pins σ H s e s' I hq
  | ok fl =>
    cases fl with
    | ret w =>
      obtain ⟨z, H', I', rz, q⟩ := I.after hq
      exact ⟨z, H', I', rz, q⟩
    | next => exact False.elim hq
    | brk => exact False.elim hq
    | cont => exact False.elim hq
def rOwn (G : Gx) (C : Addr) (m : List IV → Option IV) (E : XK) (g : Bool → Bool) : R2 := fun x y H Q => ∃ a b dx dy fs gs, x = .ref a ∧ y = .ref b ∧ H a = some (.ins C dx fs) ∧ H b = some (.ins C dy gs) ∧ spP G 2 m [x, y] H (fun v H' => ∃ c, v = .bl c ∧ Q (.bl (g c)) H') E
theorem op_ownEq (F : FnOk X.prog X.w X.K X.mg X.base CX0 k f fd ps (spP G 2 m)) (hb : Binds X.K fd ps []) (hx : Passes CX0 X E) (ho : OwnEq X.K C f) (hr : Room k X.A) : OpR X (compareOp .Eq) (rOwn G C m E id) := by
  intro pins s σ H x y v u Q I rx ry ⟨a, b, dx, dy, fs, gs, ex, ey, ha, hbb, hs⟩
  subst ex ey
  cases rx
  cases ry
  obtain ⟨mA, J, _⟩ := ins_get I.hok ha
  obtain ⟨mB, J', _⟩ := ins_get I.hok hbb
  obtain ⟨od, J, _⟩ := J.look
  obtain ⟨od', J', _⟩ := J'.look
  obtain ⟨m0, hF⟩ := I.fr
  show wpAny (model X.prog X.w) X.A (richCompare .Eq (.ref a) (.ref b)) (EP X pins σ Q) X.xe s
  refine PySem.W.cmp_K (op := .Eq) (tb := .ref C) hr.units0 hF I.ok.mod.kin J J'.type (by simp [PySem.W.notFirst]) ho.eq ho.fn ?_
  refine wpAny_mono (own_run F hb hx ⟨hr, rfl⟩ I hs) (fun v s' ⟨z, H', I', rz, c, ez, q⟩ => ?_) fun _ _ e => e
  subst ez
  cases rz
  exact ⟨.bl c, H', I', rfl, q⟩
theorem op_ownNe (F : FnOk X.prog X.w X.K X.mg X.base CX0 k f fd ps (spP G 2 m)) (hb : Binds X.K fd ps []) (hx : Passes CX0 X E) (ho : OwnEq X.K C f) (hr : Room (k + 1) X.A) : OpR X (compareOp .NotEq) (rOwn G C m E (!·)) := by
  intro pins s σ H x y v u Q I rx ry ⟨a, b, dx, dy, fs, gs, ex, ey, ha, hbb, hs⟩
  subst ex ey
  cases rx
  cases ry
  obtain ⟨mA, J, _⟩ := ins_get I.hok ha
  obtain ⟨mB, J', _⟩ := ins_get I.hok hbb
  obtain ⟨od, J, _⟩ := J.look
  obtain ⟨od', J', _⟩ := J'.look
  obtain ⟨m0, hF⟩ := I.fr
  show wpAny (model X.prog X.w) X.A (richCompare .NotEq (.ref a) (.ref b)) (EP X pins σ Q) X.xe s
  refine ne_K (tb := .ref C) hr.in1.units0 (I.ok.mod.kin.keeps hF.keep) J J'.type (by simp [PySem.W.notFirst]) ho.ne ho.mro ho.eq ho.fn ?_
  refine wpAny_mono (own_run F hb hx ⟨hr.in1, rfl⟩ I hs) (fun v s' ⟨z, H', I', rz, c, ez, q⟩ => ?_) fun _ _ e => e
  subst ez
  cases rz
  exact ⟨c, rfl, ⟨.bl (!c), H', I', rfl, q⟩⟩
/-! ### the machines -/
def blI : IV → Option Bool
  | .bl b => some b
  | _ => none
def mOwn (c : Nat) (m : List IV → Option IV) (g : Bool → Bool) (fa fb : Mv) : Mb := fun env h => (fa env h).bind fun x h1 => (fb env h1).bind fun y h2 => match x, y with
  | .ins c1 n1 v1, .ins c2 n2 v2 => if c1 = c ∧ c2 = c ∧ noRefs [.ins c1 n1 v1, .ins c2 n2 v2] = true then .ofO (((m [.ins c1 n1 v1, .ins c2 n2 v2]).bind blI).map g) h2 else .bad
  | _, _ => .bad
theorem own_rd {c : Nat} {g : Bool → Bool} {fa fb : Mv} {O : Addr → Prop} {h : IH} {φ : List Addr} {σ : L2.St} {H : Hp} {env : Env} {Q : VK} (R : Rep G O h φ H) (En : EnvR G (Lv O h φ) φ H env σ)
    (P : Post relB G O h φ H (mOwn c m g fa fb env h) fun b H' => Q (.bl b) H') : tOp (rOwn G (G.cad c) m E g) (rE G fa) (rE G fb) σ H Q := by
  refine ⟨O, h, φ, env, R, En, (P.bind (rel := relV G)).mono fun v H1 ⟨x, h1, φ1, _, g1, r1, P1⟩ => ?_⟩
  refine ⟨O, h1, φ1, env, g1.rep, En.go R g1, (P1.bind (rel := relV G)).mono fun u H2 ⟨y, h2, φ2, _, g2, r2, P2⟩ => ?_⟩
  have r1' := relV.go g1.rep g2 r1
  cases x with
  | ins c1 n1 v1 =>
    cases y with
    | ins c2 n2 v2 =>
      have P3 : Post relB G O h2 φ2 H2 (if c1 = c ∧ c2 = c ∧ noRefs [.ins c1 n1 v1, .ins c2 n2 v2] = true then .ofO (((m [.ins c1 n1 v1, .ins c2 n2 v2]).bind blI).map g) h2 else .bad) fun b H' => Q (.bl b) H' := P2
      by_cases cc : c1 = c ∧ c2 = c ∧ noRefs [.ins c1 n1 v1, .ins c2 n2 v2] = true
      · rw [if_pos cc] at P3
        obtain ⟨rfl, rfl, nr⟩ := cc
        have w1 := r1'
        have w2 := r2
        simp only [relV, RV] at w1 w2
        obtain ⟨a, dx, fs, ev, _, ha, _⟩ := w1
        obtain ⟨b, dy, gs, eu, _, hb, _⟩ := w2
        subst ev eu
        refine ⟨a, b, dx, dy, _, _, rfl, rfl, ha, hb, ?_⟩
        refine pure_post (xs := [.ins c2 n1 v1, .ins c2 n2 v2]) g2.rep (by
          simp only [RVs]
          exact ⟨_, _, rfl, r1', _, _, rfl, r2, rfl⟩) rfl nr ?_
        cases q : m [.ins c2 n1 v1, .ins c2 n2 v2] with
        | none =>
          rw [q] at P3
          exact P3.elim
        | some z =>
          rw [q] at P3
          cases z with
          | bl b => exact fun φ' H' v gg rv => (by
              simp only [relV, RV] at rv
              subst rv
              exact ⟨b, rfl, P3 φ' H' (g b) gg rfl⟩)
          | _ => exact P3.elim
      · rw [if_neg cc] at P3
        exact P3.elim
    | _ => exact P2.elim
  | _ => exact P2.elim
variable {a b : Expr} {pos : Pos} {fa fb : Mv} {c : Nat}
theorem t_ownEq (F : FnOk X.prog X.w X.K X.mg X.base CX0 k f fd ps (spP G 2 m)) (hr : Room k X.A) (hbd : Binds X.K fd ps []) (hx : Passes CX0 X E) (ho : OwnEq X.K (G.cad c) f) (ha : PE X a (rE G fa)) (hb : PE X b (rE G fb)) (hm : behindInMarks .Eq b = false) : PT X (.Compare a [.Eq] [b] pos) (rT G (mOwn c m id fa fb)) :=
  PTimp (pt_cmpR (op_ownEq F hbd hx ho hr) ha hb hm) fun σ H Q ⟨O, h, φ, env, R, En, P⟩ => own_rd (Q := fun x H' => ∃ k, x = .bl k ∧ Q k H') R En (P.mono fun b H' q => ⟨b, rfl, q⟩)
theorem s_ownEq (F : FnOk X.prog X.w X.K X.mg X.base CX0 k f fd ps (spP G 2 m)) (hr : Room k X.A) (hbd : Binds X.K fd ps []) (hx : Passes CX0 X E) (ho : OwnEq X.K (G.cad c) f) (ha : PE X a (rE G fa)) (hb : PE X b (rE G fb)) (hm : behindInMarks .Eq b = false) : PE X (.Compare a [.Eq] [b] pos) (rE G (mB (mOwn c m id fa fb))) :=
  PEimp (pe_cmpR (op_ownEq F hbd hx ho hr) ha hb hm) fun σ H Q ⟨O, h, φ, env, R, En, P⟩ => own_rd R En (mB_post P)
theorem t_ownNe (F : FnOk X.prog X.w X.K X.mg X.base CX0 k f fd ps (spP G 2 m)) (hr : Room (k + 1) X.A) (hbd : Binds X.K fd ps []) (hx : Passes CX0 X E) (ho : OwnEq X.K (G.cad c) f) (ha : PE X a (rE G fa)) (hb : PE X b (rE G fb)) (hm : behindInMarks .NotEq b = false) : PT X (.Compare a [.NotEq] [b] pos) (rT G (mOwn c m (!·) fa fb)) :=
  PTimp (pt_cmpR (op_ownNe F hbd hx ho hr) ha hb hm) fun σ H Q ⟨O, h, φ, env, R, En, P⟩ => own_rd (Q := fun x H' => ∃ k, x = .bl k ∧ Q k H') R En (P.mono fun b H' q => ⟨b, rfl, q⟩)
theorem s_ownNe (F : FnOk X.prog X.w X.K X.mg X.base CX0 k f fd ps (spP G 2 m)) (hr : Room (k + 1) X.A) (hbd : Binds X.K fd ps []) (hx : Passes CX0 X E) (ho : OwnEq X.K (G.cad c) f) (ha : PE X a (rE G fa)) (hb : PE X b (rE G fb)) (hm : behindInMarks .NotEq b = false) : PE X (.Compare a [.NotEq] [b] pos) (rE G (mB (mOwn c m (!·) fa fb))) :=
  PEimp (pe_cmpR (op_ownNe F hbd hx ho hr) ha hb hm) fun σ H Q ⟨O, h, φ, env, R, En, P⟩ => own_rd R En (mB_post P)
end
end Iv

/-! IwA: repr of data where no repr is under way. -/
namespace Iv
open PySem PySem.Spec PyProof.Rows L2

def rRepr (K : PySem.W.Frag) : List V → Hp → VK → Prop := fun xs H Q => ∃ a d, xs = [.ref a] ∧ Dp K H (.ref a) d ∧ d.showable = true ∧ d.hasDict = false ∧ d.depth ≤ 8 ∧ d.shown.length ≤ sizeLine ∧ Q (.str d.shown) H
section
variable {X : Cx} {G : Gx}
theorem call_reprD (hg : X.A.guards = some []) (hu : X.A.units + 64 < cLine) : CallR X (.builtin "repr") (rRepr X.K) := by
  intro pins s σ H xs us Q I r h
  obtain ⟨a, d, rfl, hd, h1, h2, h3, h4, q⟩ := h
  obtain ⟨u, rfl, ru⟩ := vals1 r
  obtain ⟨as, rr⟩ := Dp.reads I d (.ref a) u hd ru
  cases ru
  exact repr_of_reads' rr h1 (PyData.noDict_hsm h2) hg (by omega) (fun _ _ e => e) (fun h' u tk hk => ⟨.str d.shown, H, I.kept hk, ⟨_, rfl⟩, q⟩) h4
def bRepr : Bf := fun xs h => match xs with
  | [x] => match skI (view h x), pd (view h x) with
    | some _, some d => if d.showable = true ∧ d.hasDict = false ∧ d.depth ≤ 8 ∧ d.shown.length ≤ sizeLine then .ok (.str d.shown) h else .bad
    | _, _ => .bad
  | _ => .bad
theorem b_repr : BF G (rRepr G.K) bRepr := by
  intro O h φ H xs vs Q R r P
  unfold bRepr at P
  split at P
  · rename_i x
    obtain ⟨v, rfl, ra⟩ := rvs1 r
    split at P
    · rename_i ys d e1 e2
      by_cases c : d.showable = true ∧ d.hasDict = false ∧ d.depth ≤ 8 ∧ d.shown.length ≤ sizeLine
      · rw [if_pos c] at P
        obtain ⟨k, us, rfl, _, _⟩ := skw_of R ra e1
        exact ⟨_, d, rfl, dpw_of rfl (RW.view R ra) e2, c.1, c.2.1, c.2.2.1, c.2.2.2, P φ H _ (Go.refl R) rfl⟩
      · rw [if_neg c] at P
        exact P.elim
    · exact P.elim
  · exact P.elim
end
end Iv

/-! IwB: the law's own def, where nothing is being shown (after the library's law_call, walk_ofE, fn_of). -/
namespace Iv
open PySem PySem.Spec PyProof.Rows L2

/-- a promise of a def at one place only -/
structure FnAt (P : Program) (w : World) (K : PySem.W.Frag) (mg : Str → Option Value) (base : Heap) (CX : CXT) (A : Around) (f : Addr) (fd : FuncData) (ps : List Str) (sp : Sp) : Prop where
  len : ∀ vs H Q E, sp vs H Q E → vs.length = ps.length
  run : ∀ (outer : List PySem.Env) (s : Shared) (H : Hp) (args : Args) (us : List Value) (vs : List V) (Q : VK) (E : XK), Env0 P w K mg base A outer s H → BindsTo s fd args (ps.zip us) → Vals vs us → sp vs H Q E →
    codeAny (model P w) A (.call (.ref f) args) (CR CX outer P w H s Q E) s
theorem fn_ofG {CX : CXT} {P : Program} {w : World} {K : PySem.W.Frag} {mg : Str → Option Value} {base : Heap} {k : Nat} {A : Around} {f : Addr} {name qual : Str} {params : Arguments} {body : List Stmt} {scope : Scope} {dV kV doc pm cdv ct oc : Value} {an od : Option Addr}
    {osl : Array (Option Value)} {N ps : List Str} {sp : Sp} (lk : K.lookup f = some ⟨oc, od, .func (PySem.W.fnOf name qual params body scope dV kV doc pm an cdv ct), osl⟩) (hcd : PySem.W.codeIn K cdv qual = true) (S : FnScope N ps scope)
    (len : ∀ vs H Q E, sp vs H Q E → vs.length = ps.length)
    (hr : Room (k + 1) A) (hbody : ∀ (outer : List PySem.Env) (s : Shared) (H : Hp) (vs : List V) (Q : VK) (E : XK), Room k (A.deeper (envOfC qual scope s.heap.objs.size f cdv)) → sp vs H Q E →
      ∃ t, PSs (cxOf CX P w K mg base N qual scope f cdv A outer s H E) body t ∧ t { nx := fun _ H' => Q .non H', rt := Q } (start N vs) H) :
    FnAt P w K mg base CX A f (PySem.W.fnOf name qual params body scope dV kV doc pm an cdv ct) ps sp := by
  refine ⟨len, fun outer s H args us vs Q E e0 hb r hsp => ?_⟩
  have hl := len _ _ _ _ hsp
  have KX : K.In s.heap := e0.mod.kin.keeps fun b o e => (e0.bs b o e).1
  have lim : s.heap.NoLimit := e0.mod.nolimit.keeps fun b o e => (e0.bs b o e).1
  have hkind : ∀ y ∈ ps.zip us, scope.names.lookup y.1 = some .local ∨ (scope.names.lookup y.1 = some .cell ∧ ((cellsFrom (s.heap.objs.size + 1) scope.names []).lookup y.1).isSome = true) := fun ⟨n, v⟩ hy => by
    rcases S.par n (List.of_mem_zip hy).1 with q | q
    · exact .inl q
    · exact .inr ⟨q, PySem.W.cellsFrom_some _ _ _ (.inl q)⟩
  refine codeAny_call_function hr.depth (KX _ _ lk) rfl S.co S.gen rfl (PySem.W.codeRec_of KX hcd) (hb _ _ _ _ ?_)
  refine wpAny_newFunctionEnv_cells S.kind hkind fun env he s1 x => ?_
  subst he
  refine ⟨lim.keeps x.toInCall.keep, codeAny_func ?_⟩
  obtain ⟨t, ht, hq⟩ := hbody outer s H vs Q E (hr.deeper _) hsp
  have I : Inv (cxOf CX P w K mg base N qual scope f cdv A outer s H E) [] (start N vs) H s1 := inv_start S hr.hd e0 hl r x
  refine wpAny_mono (ht.run [] s1 (start N vs) H _ I hq) (fun fl s' hs => ?_) fun e s' hs => hs
  have fin : ∀ {σ' : L2.St} {H' : Hp} {v : V} {u : Value}, Inv (cxOf CX P w K mg base N qual scope f cdv A outer s H E) [] σ' H' s' → RelV v u → Q v H' → CE outer P w H s Q u s' :=
    fun {σ' H' v u} J rv q => ⟨v, H', J.os, J.bare, J.base, J.hok, rv, q⟩
  cases fl with
  | ret u =>
    obtain ⟨v, σ', H', J, rv, q⟩ := hs
    exact fin J rv q
  | next =>
    obtain ⟨σ', H', J, q⟩ := hs
    exact fin (v := V.non) (u := Value.none) J rfl q
  | brk =>
    obtain ⟨_, _, _, q⟩ := hs
    exact False.elim q
  | cont =>
    obtain ⟨_, _, _, q⟩ := hs
    exact False.elim q

theorem law_callG {P : Program} {w : World} {K : PySem.W.Frag} {mg mb : Str → Option Value} {CX : CXT} {fa a : Addr} {fd : FuncData} {x : Str} {sp : Sp} {s₁ : Shared} {vs : List Value} {ns : List Int}
    (KX : K.In s₁.heap) (hns : s₁.heap.Ns mainGlobals mg) (hb : s₁.heap.Ns builtinsNs mb) (hbb : ∀ x : Str, x ≠ "__name__" → mb x = bootBuiltins x) (hlim : s₁.heap.NoLimit) (hg : s₁.gens = #[])
    (ha : s₁.heap.get? a = some { cls := .type "list", data := .seq vs.toArray }) (hi : IntsAre vs ns) (hl : ns.length ≤ sizeLine) (hlen : True)
    (F : ∀ base : Heap, K.In base → base.Ns mainGlobals mg → FnAt P w K mg base CX callerA fa fd [x] sp) (hbind : ∀ (s : Shared) (u : Value), BindsTo s fd ⟨[u], []⟩ [(x, u)])
    (hsp : ∀ H : Hp, Only H → SqL K H a (ns.map V.int) → sp [.ref a] H (fun v _ => v = .bl true) fun _ _ _ => False)
    (hCX : ∀ H e s', CX [] H s₁ (fun _ _ _ => False) e s' → False) :
    codeAny (model P w) callerA (.call (.ref fa) ⟨[.ref a], []⟩) (fun r s' => r = .ok (.ret (.bool true)) ∧ OldK s₁.heap s'.heap ∧ s'.os = s₁.os ∧ AllBare s'.gens) s₁ := by
  have rv := L2.vals_ints hi
  have lenV := hi.length
  -- from an abstract heap in which nothing but the script may be tracked
  have core : ∀ H : Hp, Only H → SqL K H a (ns.map V.int) → HOk P w H s₁.heap → (∀ b, H b ≠ none → b = a) → (H a ≠ none → K.lookup a = none) →
      codeAny (model P w) callerA (.call (.ref fa) ⟨[.ref a], []⟩) (fun r s' => r = .ok (.ret (.bool true)) ∧ OldK s₁.heap s'.heap ∧ s'.os = s₁.os ∧ AllBare s'.gens) s₁ := by
    intro H hO hS hok hA hK
    have base_of : ∀ {b : Addr} {o : Obj}, s₁.heap.get? b = some o → H b = none → (hidT s₁.heap H).get? b = some o := fun e n => hidT_get e n
    have noA : ∀ {b : Addr} {o : Obj} {es : Array DictEntry} {ep : Nat}, s₁.heap.get? b = some o → o.data = .dict es ep → H b = none := fun {b o es ep} e d => by
      cases q : H b with
      | none => rfl
      | some u =>
        have e' : b = a := hA b (by rw [q]; simp)
        subst e'
        rw [ha] at e; cases e
        have d' : Data.seq vs.toArray _ = Data.dict es ep := d
        cases d'
    have nsK : ∀ {b : Addr} {m : Str → Option Value}, s₁.heap.Ns b m → (hidT s₁.heap H).Ns b m := fun {b m} ⟨o, es, ep, e, d, r⟩ => ⟨o, es, ep, base_of e (noA e d), d, r⟩
    have hKb : K.In (hidT s₁.heap H) := fun b o e => base_of (KX b o e) (by
      cases q : H b with
      | none => rfl
      | some u =>
        have e' : b = a := hA b (by rw [q]; simp)
        subst e'
        rw [hK (by rw [q]; simp)] at e; cases e)
    have hM : Mod K mg (hidT s₁.heap H) := ⟨hKb, nsK hns, ⟨mb, nsK hb, hbb⟩, let ⟨mc, h1, h2⟩ := hlim; ⟨mc, nsK h1, h2⟩⟩
    have e0 : Env0 P w K mg (hidT s₁.heap H) callerA [] s₁ H := ⟨rfl, hM, fun b o e => of_hidT e, Nat.le_of_eq (hidT_size _ _), trivial, fun b hb => absurd (show b ∈ ([] : List Addr) from hb) (by simp), hok, .of_eq hg⟩
    refine codeAny_mono ((F _ hKb (nsK hns)).run [] s₁ H ⟨[.ref a], []⟩ [.ref a] [.ref a] _ _ e0 (hbind s₁ (.ref a)) (.cons rfl .nil) (hsp H hO hS)) fun r s' h => ?_
    cases r with
    | error e => exact (hCX H e s' h).elim
    | ok fl =>
      cases fl with
      | next => exact False.elim h
      | brk => exact False.elim h
      | cont => exact False.elim h
      | ret u =>
        obtain ⟨v, H', os, bare, un, hok', r', q⟩ := h
        have q' : v = .bl true := q
        subst q'
        obtain rfl : u = Value.bool true := r'
        refine ⟨rfl, OldK.of_keep fun b o e => ?_, os, bare⟩
        cases q : H b with
        | none => exact un.keep b o e q (by intro z; exact absurd (show b ∈ ([] : List Addr) from z) (by simp)) (by simp)
        | some u =>
          rcases hO b with z | ⟨ob, xs, z⟩
          · rw [q] at z; cases z
          · have z2 := un.frzs b ob _ z
            obtain ⟨e1, _⟩ := hok b _ z
            obtain ⟨e2, _⟩ := hok' b _ z2
            rw [e] at e1; cases e1
            exact e2
  cases hk : K.lookup a with
  | some o =>
    -- the script is one of the module's own objects
    have e := KX a o hk
    rw [ha] at e
    cases e
    refine core (fun _ => none) (fun _ => .inl rfl) (.inr ⟨_, vs.toArray, _, hk, rfl, rfl, rfl, by rw [List.size_toArray, lenV]; exact hl, by simpa using rv⟩) (fun b u z => by have z' : (none : Option HO) = some u := z; cases z') (fun b z => absurd rfl z) fun z => absurd rfl z
  | none =>
    refine core (fun b => if b = a then some (.frz { cls := .type "list", data := .seq vs.toArray } (.lst (ns.map V.int))) else none) (fun b => ?_) (.inl (.inr ⟨{ cls := .type "list", data := .seq vs.toArray }, if_pos rfl⟩)) (fun b u z => ?_) (fun b z => ?_) fun _ => hk
    · by_cases hb : b = a
      · exact .inr ⟨_, _, if_pos hb⟩
      · exact .inl (if_neg hb)
    · by_cases hb : b = a
      · have z' := (if_pos hb).symm.trans z
        cases z'
        subst hb
        exact ⟨ha, by rw [List.length_map]; exact hl, vs, _, rv, ha⟩
      · have z' := (if_neg hb).symm.trans z
        cases z'
    · by_cases hb : b = a
      · exact hb
      · exact absurd (if_neg hb) z
theorem walk_ofG {l : PySem.W.OpenLaw} {n : Nat} {q : Program} {loose : List Str} {XP : (Str → Option Value) → Heap → Prop} {YP : World → Heap → Prop} {d : DefRec} {CX : CXT} {x : Str}
    (hn : l.most = some n) (hn2 : n ≤ sizeLine) (hdf : d.params.defaults = [])
    (F : ∀ (w : World) (mg : Str → Option Value) (fa : Addr) (h : Heap), YP w h → h.Ns mainGlobals mg → mg d.name = some (.ref fa) →
      ∃ (K : PySem.W.Frag) (fd : FuncData) (sp : Sp), K.In h ∧ (∀ (s : Shared) (u : Value), BindsTo s fd ⟨[u], []⟩ [(x, u)]) ∧
        (∀ (H : Hp) (a : Addr) (ns : List Int), ns.length ≤ n → Only H → SqL K H a (ns.map V.int) → sp [.ref a] H (fun v _ => v = .bl true) fun _ _ _ => False) ∧
        ∀ base : Heap, K.In base → base.Ns mainGlobals mg → FnAt l.prog w K mg base CX callerA fa fd [x] sp)
    (hCX : ∀ (H : Hp) (s : Shared) (e : Value) (s' : Shared), CX [] H s (fun _ _ _ => False) e s' → False) :
    PySem.W.WalkO q loose XP YP l.row.toRowW d [] (fun f vs => PySem.call f vs) := by
  refine Att.attach_call hn hdf fun w s₀ s₁ mg mb fa o pm cd doc a vs ns G Y ho hd hcd hmg hobj hints hlen hg => ?_
  obtain ⟨K, fd, sp, KX, hb, hsp, hF⟩ := F w mg fa _ Y G.T.g hmg
  exact law_callG KX G.T.g G.T.b G.T.builtins G.T.nolimit hg hobj hints (Nat.le_trans hlen hn2) trivial hF hb (fun H hO hS => hsp H a ns hlen hO hS) fun H e s' => hCX H s₁ e s'
end Iv

/-! IwC: sum(lists, a list). -/
namespace Iv
open PySem PySem.Spec PyProof.Rows L2

def sumTo (zs : List V) (rows : List (Addr × List V)) : List V := zs ++ (rows.map (·.2)).flatten
theorem sumTo_succ {zs : List V} {rows : List (Addr × List V)} {i : Nat} {p : Addr × List V} (e : rows[i]? = some p) : sumTo zs (rows.take (i + 1)) = sumTo zs (rows.take i) ++ p.2 := by
  unfold sumTo
  rw [List.take_succ, e]
  simp
theorem sumTo_le {zs : List V} {rows : List (Addr × List V)} (i : Nat) : (sumTo zs (rows.take i)).length ≤ (sumTo zs rows).length := by
  unfold sumTo
  rw [List.length_append, List.length_append]
  have : ((rows.take i).map (·.2)).flatten.length ≤ (rows.map (·.2)).flatten.length := by
    conv => rhs; rw [← List.take_append_drop i rows, List.map_append, List.flatten_append, List.length_append]
    omega
  omega
theorem args_sum2 (a b : Value) : argsOk "sum" ⟨[a, b], []⟩ := by unfold argsOk; kernel_rfl
theorem sub_list_str : isSubtype (.type "list") (.type "str") = pure false := by rw [isSubtype_type]; kernel_rfl
theorem sub_list_bytes : isSubtype (.type "list") (.type "bytes") = pure false := by rw [isSubtype_type]; kernel_rfl
theorem sub_list_ba : isSubtype (.type "list") (.type "bytearray") = pure false := by rw [isSubtype_type]; kernel_rfl
section
variable {X : Cx} {pins : List (Addr × Obj)} {σ : L2.St} {A : Around} {R : Result → Shared → Prop} {it S a t0 : Addr} {rows : List (Addr × List V)} {zs : List V} {H0 : Hp}
theorem suml_loop (hh : A.handled = none) (hS0 : H0 S = none) (ha : SqL X.K H0 a (rows.map fun p => V.ref p.1)) (hr : ∀ p ∈ rows, H0 p.1 = some (.lst p.2)) (hz : (sumTo zs rows).length ≤ sizeLine)
    (fin : ∀ s' H' tot, Inv X pins σ H' s' → Same H0 H' → H' tot = some (.lst (sumTo zs rows)) → (tot = t0 ∨ H0 tot = none) → R (.ok (.ret (.ref tot))) s') :
    ∀ (k i : Nat) (s : Shared) (H : Hp) (tot : Addr), rows.length - i = k → i ≤ rows.length → Inv X pins σ H s → FpOk X pins H it → Same H0 H → s.heap.IsListIter it a i → H S = some (.lst [.ref tot]) → tot ≠ S → H tot = some (.lst (sumTo zs (rows.take i))) → (tot = t0 ∨ H0 tot = none) →
      codeAny (model X.prog X.w) A (.builtin "sum.loop" ⟨[.ref it, .ref S, rawInt 2, rawInt 0], []⟩) R s := by
  intro k
  induction k with
  | zero =>
    intro i s H tot hk hi I hf sm h1 hS htS ht hor
    have hin : i = rows.length := by omega
    subst hin
    obtain ⟨_, its, n, rS, lS, eS⟩ := I.lstM hS
    have eits : its = [.ref tot] := by
      cases rS with
      | cons r t =>
        cases t
        cases r
        rfl
    subst eits
    obtain ⟨itsA, rA, pA, _⟩ := I.list (ha.imp (rd_same sm) id)
    have lA := rA.length
    rw [List.length_map] at lA
    refine codeAny_builtin F.entry_sum_loop ?_
    rw [Around.under_plainId F.plain_sum_loop _]
    show wpAny _ A.in1 (seqItems? (.ref S) >>= _) _ _ s
    refine wpAny_bind (wpAny_seqItems eS rfl ?_)
    show wpAny _ A.in1 (tryCatch (pyNext (.ref it)) _ >>= _) _ _ s
    refine wpAny_bind (wpAny_tryCatch (wpAny_pyNext_list_end (show A.in1.handled = none from hh) h1 pA.isList (by simp; omega) fun h' hk' => ?_))
    obtain ⟨f0, f1, f2, f3, f4, f5⟩ := hf
    have I1 := I.turned (t' := s.toks) (fun b o hb q => hk' b o hb q) f0 f1 f3 f4 f5
    refine wpAny_pure (fin _ H tot I1 sm ?_ hor)
    rw [ht, List.take_length]
  | succ k ih =>
    intro i s H tot hk hi I hf sm h1 hS htS ht hor
    have hlt : i < rows.length := by omega
    obtain ⟨p, ep⟩ : ∃ p, rows[i]? = some p := ⟨rows[i], List.getElem?_eq_getElem hlt⟩
    have hp : H p.1 = some (.lst p.2) := sm _ _ (hr p (List.mem_of_getElem? ep))
    obtain ⟨_, its, n, rS, lS, eS⟩ := I.lstM hS
    have eits : its = [.ref tot] := by
      cases rS with
      | cons r t =>
        cases t
        cases r
        rfl
    subst eits
    obtain ⟨itsA, rA, pA, _⟩ := I.list (ha.imp (rd_same sm) id)
    obtain ⟨u, hu, ru⟩ := rA.get (show (rows.map fun p => V.ref p.1)[i]? = some (.ref p.1) by rw [List.getElem?_map, ep]; rfl)
    cases ru
    refine codeAny_builtin F.entry_sum_loop ?_
    rw [Around.under_plainId F.plain_sum_loop _]
    show wpAny _ A.in1 (seqItems? (.ref S) >>= _) _ _ s
    refine wpAny_bind (wpAny_seqItems eS rfl ?_)
    show wpAny _ A.in1 (tryCatch (pyNext (.ref it)) _ >>= _) _ _ s
    refine wpAny_bind (wpAny_tryCatch (wpAny_pyNext_list_item h1 pA.isList (by simpa using hu) fun h' h1' sb => ?_))
    have hf' := hf
    obtain ⟨f0, f1, f2, f3, f4, f5⟩ := hf'
    have I1 := I.turned (t' := s.toks) (h' := h') (fun b o hb q => (sb.2 b hb).trans q) f0 f1 f3 f4 f5
    obtain ⟨_, i1, n1, r1, l1, e1⟩ := I1.lstM ht
    obtain ⟨_, i2, n2, r2, l2, e2⟩ := I1.lstM hp
    have es := sumTo_succ (zs := zs) ep
    have hle := sumTo_le (zs := zs) (rows := rows) (i + 1)
    rw [es, List.length_append] at hle
    show wpAny _ A.in1 ((holding [Value.ref p.1] (binaryOp .Add (.ref tot) (.ref p.1))).attempt >>= _) _ _ _
    refine wpAny_bind (wpAny_attempt (wpAny_holding (PySem.P.add_list e1 e2 ?_ (by rw [List.size_toArray, List.size_toArray]; omega))))
    have ea : i1.toArray ++ i2.toArray = (i1 ++ i2).toArray := by simp
    rw [ea]
    have I2 := I1.lnew (t' := s.toks) (r1.append r2) (by rw [List.length_append]; omega)
    have hn : H h'.objs.size = none := I1.fresh
    have nS : S ≠ h'.objs.size := fun z => by rw [← z, hS] at hn; cases hn
    have hS2 : upd H h'.objs.size (.lst (sumTo zs (rows.take i) ++ p.2)) S = some (.lst [.ref tot]) := by rw [upd_ne nS]; exact hS
    obtain ⟨_, its3, n3, rS3, lS3, eS3⟩ := I2.lstM hS2
    show wpAny _ A.in1 (updateSeq S (fun _ => #[.ref h'.objs.size]) >>= _) _ _ _
    refine wpAny_bind (wpAny_updateSeq eS3 rfl ?_ (by rw [List.size_toArray, ← lS3]; show 1 ≤ sizeLine; decide) (by show 1 ≤ sizeLine + 1; decide))
    have up1 := Heap.get?_update_self (Obj.mapSeq fun _ => #[Value.ref h'.objs.size]) eS3 rfl
    refine wpAny_bind (wpAny_letGo ?_)
    refine wpAny_bind (wpAny_updateSeq up1 rfl ?_ (by show 1 ≤ sizeLine; decide) (by show 1 ≤ sizeLine + 1; decide))
    have up2 := Heap.get?_update_self (Obj.mapSeq fun _ => #[Value.ref h'.objs.size]) up1 rfl
    have oth : ∀ b o, b ≠ S → (h'.push { cls := .type "list", data := .seq (i1 ++ i2).toArray }).get? b = some o → (((h'.push { cls := .type "list", data := .seq (i1 ++ i2).toArray }).update S (Obj.mapSeq fun _ => #[Value.ref h'.objs.size])).update S (Obj.mapSeq fun _ => #[Value.ref h'.objs.size])).get? b = some o :=
      fun b o hb e => (Heap.get?_update_other _ _ (Ne.symm hb)).trans ((Heap.get?_update_other _ _ (Ne.symm hb)).trans e)
    have I3 := I2.write (x := S) (e := S) (o := .lst [.ref h'.objs.size]) (t' := s.toks) (by rw [hS2]; trivial) (.inl rfl) (fun b u hb q => oth b u hb q) ⟨_, up2⟩ ⟨by show 1 ≤ sizeLine; decide, [.ref h'.objs.size], _, .cons rfl .nil, up2⟩
    have itS : it ≠ S := fun z => by rw [z, hS] at f0; cases f0
    have itL : it < h'.objs.size := by obtain ⟨o, e, _⟩ := h1'; exact Heap.lt_size e
    refine wpAny_pure ⟨plainId_quiet F.plain_sum_loop _, ih (i + 1) _ _ h'.objs.size (by omega) hlt I3 ⟨by rw [upd_ne itS, upd_ne (Nat.ne_of_lt itL)]; exact f0, f1, f2, f3, f4, f5⟩ (fun b u e => ?_) (h1'.at fun o e => oth _ _ itS (Heap.get?_push_of_some _ e)) upd_same nS.symm ?_ (.inr ?_)⟩
    · have nb : b ≠ S := fun z => by rw [z, hS0] at e; cases e
      have e' := sm b u e
      rw [upd_ne nb, upd_ne (fun z => by rw [z, hn] at e'; cases e')]
      exact e'
    · rw [upd_ne nS.symm, upd_same, es]
    · cases q : H0 h'.objs.size with
      | none => rfl
      | some u =>
        have := sm _ _ q
        rw [hn] at this
        cases this
end
def rSumL (K : PySem.W.Frag) : List V → Hp → VK → Prop := fun xs H Q => ∃ (a t0 : Addr) (rows : List (Addr × List V)) (zs : List V), xs = [.ref a, .ref t0] ∧ SqL K H a (rows.map fun p => V.ref p.1) ∧ (∀ p ∈ rows, H p.1 = some (.lst p.2)) ∧ H t0 = some (.lst zs) ∧ (sumTo zs rows).length ≤ sizeLine ∧
  ∀ H' tot, Same H H' → H' tot = some (.lst (sumTo zs rows)) → (tot = t0 ∨ H tot = none) → Q (.ref tot) H'
section
variable {X : Cx} {G : Gx}
theorem call_sumL (hc : X.calm = true) : CallR X (.builtin "sum") (rSumL X.K) := by
  intro pins s σ H xs us Q I r h
  obtain ⟨a, t0, rows, zs, rfl, ha, hr, ht, hz, q⟩ := h
  have eu : us = [.ref a, .ref t0] := by
    cases r with
    | cons s1 t1 =>
      cases s1
      cases t1 with
      | cons s2 t2 =>
        cases s2
        cases t2
        rfl
  subst eu
  obtain ⟨itsA, rA, pA, _⟩ := I.list ha
  refine call_function_tree F.kind_sum F.plain_sum F.entry_sum (args_sum2 _ _) ?_
  unfold Builtin.«sum»
  simp only [List.length_cons, List.length_nil]
  rw [if_neg (by decide)]
  refine wpAny_bind (wpAny_of_eq (show Builtin.Builtins.bindParams "sum" ["start"] 0 ⟨[.ref t0], []⟩ = pure [some (.ref t0)] from rfl) ?_)
  refine wpAny_bind (wpAny_pyIter_list pA.isList ?_)
  refine wpAny_bind (wpAny_pure ?_)
  have I1 := I.kept (t' := s.toks) (h' := s.heap.push { cls := .type "list_iterator", data := .fields #[.ref a, .int 0 0] }) (fun b u e => Heap.get?_push_of_some _ e)
  obtain ⟨_, i0, n0, r0, l0, e0⟩ := I1.lstM ht
  have hT : ({ s with heap := s.heap.push { cls := .type "list_iterator", data := .fields #[.ref a, .int 0 0] } } : Shared).TypeIs (.ref t0) "list" := ⟨_, e0, rfl⟩
  simp only [List.forIn_cons, List.forIn_nil]
  refine wpAny_bind (wpAny_bind (wpAny_bind (wpAny_isInstance (T := "list") (b := false) hT sub_list_str ?_)))
  simp only [Bool.false_eq_true, if_false]
  refine wpAny_pure (wpAny_bind (wpAny_bind (wpAny_isInstance (T := "list") (b := false) hT sub_list_bytes ?_)))
  simp only [Bool.false_eq_true, if_false]
  refine wpAny_pure (wpAny_bind (wpAny_bind (wpAny_isInstance (T := "list") (b := false) hT sub_list_ba ?_)))
  simp only [Bool.false_eq_true, if_false]
  refine wpAny_pure (wpAny_pure ?_)
  refine wpAny_bind (wpAny_newObj_type ?_ (by show 1 ≤ sizeLine; decide))
  have hsz : (s.heap.push { cls := .type "list_iterator", data := .fields #[.ref a, .int 0 0] }).objs.size = s.heap.objs.size + 1 := Heap.size_push ..
  have I2 := I1.lnew (t' := s.toks) (ys := [.ref t0]) (its := [.ref t0]) (.cons rfl .nil) (by show 1 ≤ sizeLine; decide)
  have hn0 : H s.heap.objs.size = none := I.fresh
  have hn1 : H (s.heap.push { cls := .type "list_iterator", data := .fields #[.ref a, .int 0 0] }).objs.size = none := I1.fresh
  have nit : s.heap.objs.size ≠ (s.heap.push { cls := .type "list_iterator", data := .fields #[.ref a, .int 0 0] }).objs.size := by rw [hsz]; omega
  have ntS : t0 ≠ (s.heap.push { cls := .type "list_iterator", data := .fields #[.ref a, .int 0 0] }).objs.size := fun z => by rw [← z, ht] at hn1; cases hn1
  refine wpAny_pure ⟨plainId_quiet F.plain_sum_loop _, suml_loop (X := X) (H0 := H) (t0 := t0) (it := s.heap.objs.size) (show X.A.handled = none from I.ok.hd hc) hn1 ha hr hz (fun s' H' tot I' sm e o => ⟨.ref tot, H', I', rfl, q H' tot sm e o⟩) _ 0 _ _ t0 rfl (Nat.zero_le _) I2
    (I.fpOk (Nat.le_refl _) (by rw [upd_ne nit]; exact hn0)) (same_upd hn1) ?_ upd_same ntS ?_ (.inl rfl)⟩
  · exact ⟨_, Heap.get?_push_of_some _ (Heap.get?_push_size _ rfl), rfl, rfl⟩
  · rw [upd_ne ntS, ht]
    simp [sumTo]
/-- the machine -/
def rowsOfI : List IV → Option (List (List IV))
  | [] => some []
  | .lst xs :: r => (rowsOfI r).map (xs :: ·)
  | _ => none
def bSumL : Bf := fun xs h => match xs with
  | [x, .lst z] => match (lstI (view h x)).bind rowsOfI with
    | some rs => if (z ++ rs.flatten).length ≤ sizeLine then .ok (.lst (z ++ rs.flatten)) h else .bad
    | none => .bad
  | _ => .bad
theorem rows_of {lv : Addr → Prop} {φ : List Addr} {H : Hp} : ∀ {xs : List IV} {vs : List V} {rs : List (List IV)}, RVs G lv φ H xs vs → rowsOfI xs = some rs → ∃ rows : List (Addr × List V), vs = rows.map (fun p => V.ref p.1) ∧ (∀ p ∈ rows, H p.1 = some (.lst p.2)) ∧ RVs G lv φ H rs.flatten (rows.map (·.2)).flatten
  | [], vs, rs, r, e => by
    simp only [RVs] at r
    simp only [rowsOfI, Option.some.injEq] at e
    subst r e
    exact ⟨[], rfl, fun _ h => (by cases h), by simp [RVs]⟩
  | x :: xs, vs, rs, r, e => by
    simp only [RVs] at r
    obtain ⟨v, r', rfl, h1, h2⟩ := r
    cases x with
    | lst ys =>
      simp only [rowsOfI, Option.map_eq_some_iff] at e
      obtain ⟨rs', e1, rfl⟩ := e
      obtain ⟨rows, rfl, h3, h4⟩ := rows_of h2 e1
      simp only [RV] at h1
      obtain ⟨p, us, rfl, _, hp, ru⟩ := h1
      refine ⟨(p, us) :: rows, rfl, fun q hq => ?_, ?_⟩
      · rcases List.mem_cons.mp hq with z | z
        · rw [z]; exact hp
        · exact h3 q z
      · simp only [List.flatten_cons, List.map_cons]
        exact RVs.append ru h4
    | _ => simp only [rowsOfI] at e; cases e
theorem b_sumL : BF G (rSumL G.K) bSumL := by
  intro O h φ H xs vs Q R r P
  unfold bSumL at P
  split at P
  · rename_i x z
    obtain ⟨v, u, rfl, ra, rz⟩ := rvs2 r
    split at P
    · rename_i rs e
      obtain ⟨ps, e1, e2⟩ := Option.bind_eq_some_iff.mp e
      obtain ⟨a, us, rfl, ru, hq⟩ := lstw_of R ra e1
      obtain ⟨rows, rfl, h3, h4⟩ := rows_of ru e2
      simp only [RV] at rz
      obtain ⟨t0, zs, rfl, nl, ht, rzs⟩ := rz
      have rr := RVs.append rzs h4
      by_cases c : (z ++ rs.flatten).length ≤ sizeLine
      · rw [if_pos c] at P
        refine ⟨a, t0, rows, zs, rfl, hq, h3, ht, by unfold sumTo; rw [rr.length]; exact c, fun H' tot sm et o => ?_⟩
        have g2 := Go.same R sm
        refine P φ H' _ g2 ?_
        simp only [relV, RV]
        refine ⟨tot, _, rfl, ?_, et, RVs.mono g2.ext R.ok _ rr⟩
        rcases o with o | o
        · rw [o]; exact nl
        · exact fresh_lv R.ok o
      · rw [if_neg c] at P
        exact P.elim
    · exact P.elim
  · exact P.elim
end
end Iv

/-! IwD: ranges as values. -/
namespace Iv
open PySem PySem.Spec PyProof.Rows L2
section
variable {X : Cx} {G : Gx} {tg e : Expr} {p pos : Pos} {f : Mv}
theorem cr_range1 : CallR X (.type "range") (fun vs H Q => ∃ j, vs = [V.int j] ∧ ∀ p, H p = none → Q (.ref p) (upd H p (.rng 0 j))) := by
  intro pins s σ H vs us Q I r h
  obtain ⟨j, rfl, q⟩ := h
  obtain ⟨u1, rfl, rj⟩ := vals1 r
  obtain ⟨u, rfl⟩ := rj
  refine call_range_1 ⟨.ref s.heap.objs.size, upd H s.heap.objs.size (.rng 0 j), I.laid (t' := s.toks + 2) (fun b o e => Heap.get?_push_of_some _ e) (Nat.le_refl _) ?_, rfl, q _ (I.hok.fresh (Nat.le_refl _))⟩
  exact ⟨_, _, _, Heap.get?_push_size _ rfl⟩
def bRng : Bf := fun xs h => match xs with
  | [.int j] => .ok (.rng 0 j) h
  | _ => .bad
theorem b_rng : BF G (fun vs H Q => ∃ j, vs = [V.int j] ∧ ∀ p, H p = none → Q (.ref p) (upd H p (.rng 0 j))) bRng := by
  intro O h φ H xs vs Q R r P
  unfold bRng at P
  split at P
  · rename_i j
    obtain ⟨v, rfl, ra⟩ := rvs1 r
    simp only [RV] at ra
    subst ra
    refine ⟨j, rfl, fun p n => P φ _ _ (Go.same R (same_upd n)) ?_⟩
    simp only [relV, RV]
    exact ⟨p, rfl, upd_same⟩
  · exact P.elim
/-- over a range that a name holds -/
def iRv (te : TE) : TI := fun σ H R => te σ H fun x H1 => ∃ r lo hi, x = .ref r ∧ H1 r = some (.rng lo hi) ∧ (-(2 ^ 62) ≤ lo ∧ lo < 2 ^ 62 ∧ -(2 ^ 62) ≤ hi ∧ hi < 2 ^ 62) ∧ R (Itr lo (hi - lo).toNat) H1
theorem pi_rv {te : TE} (he : PE X e te) : PI X tg e (iRv te) := by
  refine ⟨fun pins s σ H R I h => ?_⟩
  refine thn (he.run pins s σ H _ I h) fun u s1 ⟨x, H1, I1, rx, r, lo, hi, ex, hr, ⟨h1, h2, h3, h4⟩, q⟩ => ?_
  subst ex
  cases rx
  obtain ⟨t, u, v, er⟩ := I1.hok r _ hr
  refine wpAny_pyIter_range (show IsRange s1.heap r lo hi 1 t u v from er) (small_one h1 h2 h3 h4) ?_
  refine ⟨s1.heap.objs.size, [s1.heap.objs.size], _, _, H1, rfl, I1.kept (t' := s1.toks) fun b o e => Heap.get?_push_of_some _ e, turn_range _ lo (hi - lo).toNat, ?_, fun b hb => ?_, q⟩
  · have e1 : lo + ((0 : Nat) : Int) * 1 = lo := by simp
    have e2 : (((hi - lo).toNat : Nat) : Int) - ((0 : Nat) : Int) = Builtin.Range.rangeSize lo hi 1 := by rw [rangeSize_one]; split <;> omega
    show IsRangeIter _ _ (lo + ((0 : Nat) : Int) * 1) ((((hi - lo).toNat : Nat) : Int) - ((0 : Nat) : Int)) 1
    rw [e1, e2]
    exact Heap.get?_push_size _ rfl
  · have e : b = s1.heap.objs.size := by simpa using hb
    subst e
    exact I1.fpOk (Nat.le_refl _) (I1.hok.fresh (Nat.le_refl _))
def mRv (f : Mv) : Mi := fun env h => (f env h).bind fun x h1 => match x with
  | .rng i j => if -(2 ^ 62) ≤ i ∧ i < 2 ^ 62 ∧ -(2 ^ 62) ≤ j ∧ j < 2 ^ 62 then .ok (rngI i (j - i).toNat) h1 else .bad
  | _ => .bad
theorem i_rv (he : PE X e (rE G f)) : PI X tg e (rI G (mRv f)) := by
  refine PIimp (pi_rv he) fun σ H R ⟨O, h, φ, env, Rp, E, P⟩ => ?_
  refine ⟨O, h, φ, env, Rp, E, (P.bind (rel := relV G)).mono fun v H1 ⟨x, h1, φ1, _, g1, r1, P1⟩ => ?_⟩
  cases x with
  | rng i j =>
    simp only [relV, RV] at r1
    obtain ⟨r, rfl, hr⟩ := r1
    by_cases hj : -(2 ^ 62) ≤ i ∧ i < 2 ^ 62 ∧ -(2 ^ 62) ≤ j ∧ j < 2 ^ 62
    · have P2 : Post (relI G) G O h1 φ1 H1 (if -(2 ^ 62) ≤ i ∧ i < 2 ^ 62 ∧ -(2 ^ 62) ≤ j ∧ j < 2 ^ 62 then Res.ok (rngI i (j - i).toNat) h1 else Res.bad) R := P1
      rw [if_pos hj] at P2
      exact ⟨r, i, j, rfl, hr, hj, P2 φ1 H1 _ (Go.refl g1.rep) iter_r⟩
    · have P2 : Post (relI G) G O h1 φ1 H1 (if -(2 ^ 62) ≤ i ∧ i < 2 ^ 62 ∧ -(2 ^ 62) ≤ j ∧ j < 2 ^ 62 then Res.ok (rngI i (j - i).toNat) h1 else Res.bad) R := P1
      rw [if_neg hj] at P2
      exact P2.elim
  | _ => exact P1.elim
end
end Iv

/-! IwE: the rules in the short form in which gen_law.py prints them. -/
namespace Iv
open PySem PySem.Spec PyProof.Rows L2
section
variable {X : Cx} {G : Gx} {pos p : Pos} {a b c e : Expr} {es rest : List Expr} {fa fb fc f : Mv} {fs : Ma} {ta tb tc : Mb} {st : Stmt} {sts : List Stmt}
theorem sv (i : Nat) {x : Str} (hN : X.N[i]? = some x := by rfl) (hv : Vis X.env.scope x := by first | exact .inl rfl | exact .inr (.inl rfl) | exact .inr (.inr rfl)) (hd : (x == ("__debug__" : Str)) = false := by rfl) (hcd : (x == ("__classdict__" : Str)) = false := by rfl) :
    PE X (.Name x pos) (rE G (mVar i)) := s_var hN hv hd hcd
theorem tand (ha : PT X a (rT G ta)) (hb : PW X (.BoolOp .And (b :: rest) pos) (rT G tb)) : PT X (.BoolOp .And (a :: b :: rest) pos) (rT G (mAnd ta tb)) := (t_and ha hb).pt
theorem tor (ha : PT X a (rT G ta)) (hb : PW X (.BoolOp .Or (b :: rest) pos) (rT G tb)) : PT X (.BoolOp .Or (a :: b :: rest) pos) (rT G (mOr ta tb)) := (t_or ha hb).pt
theorem ac (ha : PE X e (rE G fa)) (hr : PA X es (rA G fs)) (hs : starEach (e :: es) X.env = (false, eval e X.env) :: starEach es X.env := by rfl) : PA X (e :: es) (rA G (mCons fa fs)) := a_cons ha hr hs
theorem r65 {k : Nat} {A : Around} (r : Room k A) : A.units + 65 < cLine := by have := r.un; omega
theorem r1 {k : Nat} {A : Around} (r : Room k A) : A.units + 1 < cLine := by have := r.un; omega
theorem gn (i : Nat) {x : Str} (hN : X.N.Nodup) (hi : X.N[i]? = some x := by rfl) (hx : Loc X.env.scope x := by first | exact .inl rfl | exact .inr rfl) (hf : X.fn x = true ∨ X.env.scope.names.lookup x = some .local := by first | exact .inl rfl | exact .inr rfl | assumption) : PG X (.Name x pos) (rG G [i] (gN i)) := g_name hN hi hx hf
end
def blkB (N : List Str) (sc scope : Scope) (own : List (Str × Nat)) : Bool :=
  decide (scope.kind = .function) && scope.names.all (fun y => decide (scope.names.lookup y.1 = some y.2)) && own.all (fun p => decide (N[p.2]? = some p.1)) &&
    scope.names.all (fun y => !decide (y.2 = .free) || (decide (sc.names.lookup y.1 = some .cell) || decide (sc.names.lookup y.1 = some .free))) &&
    scope.names.all (fun y => !(decide (y.2 = .local) || decide (y.2 = .cell)) || (decide (y.1 ∈ own.map (·.1)) || !decide (y.1 ∈ N)))
theorem blkOf {N : List Str} {sc scope : Scope} {own : List (Str × Nat)} (h : blkB N sc scope own = true) : BlkOk N sc scope own := by
  unfold blkB at h
  simp only [Bool.and_eq_true, decide_eq_true_eq, List.all_eq_true, Bool.or_eq_true, Bool.not_eq_true', decide_eq_false_iff_not] at h
  obtain ⟨⟨⟨⟨h1, h2⟩, h3⟩, h4⟩, h5⟩ := h
  refine ⟨h1, fun y hy => h2 y hy, fun p hp => h3 p hp, fun y hy e => ?_, fun y hy e => ?_⟩
  · rcases h4 y hy with q | q
    · exact absurd e q
    · exact q
  · rcases h5 y hy with q | q
    · exact absurd e (by simpa using q)
    · exact q
theorem sw_trueD {kx vx : Expr} {gs : List Comprehension} {scope : Scope} {pos py : Pos} {y : Str} {l : Nat} {env : PySem.Env} (hk : env.scope.kind = .function) (hy : env.scope.names.lookup y = some .local) (hl : (py.line == pos.line) = true)
    (ha : (scope.names.any fun (n, k) => n == y && (k == .local || k == .cell)) = false) : swapsWith (.DictComp kx vx gs scope pos) (some (.Name y py)) l env = pure true := by
  have ky : env.kindOf y = some .local := hy
  have hb : env.blockKind = .function := by unfold Env.blockKind; rw [hk]; rfl
  unfold swapsWith
  simp only [hb, ky, ha, Expr.pos, hl]
  rfl
def ktT (nc : Nat) (ys : List String) (cs : List Nat) : Tg → Option Bool
  | .ty s => if s ∈ ["NoneType", "bool", "int", "str", "tuple", "list", "dict"] then some (decide (s ∈ ys)) else none
  | .cl c => if c < nc then some (decide (c ∈ cs)) else none
theorem fn_none {P : Program} {w : World} {K : PySem.W.Frag} {mg : Str → Option Value} {base : Heap} {k : Nat} {f : Addr} {fd : FuncData} {ps : List Str} {G : Gx} : FnOk P w K mg base CX0 k f fd ps (spP G ps.length fun _ => none) :=
  ⟨fun vs H Q E h => (by obtain ⟨_, _, _, _, _, _, e, _⟩ := h; cases e), fun A outer s H args us vs Q E _ _ _ _ h => (by obtain ⟨_, _, _, _, _, _, e, _⟩ := h; cases e)⟩
end Iv

/-! IwF: the law's own def: its machine at the script. -/
namespace Iv
open PySem PySem.Spec PyProof.Rows L2
section
variable {P : Program} {w : World} {K : PySem.W.Frag} {mg : Str → Option Value} {base : Heap} {x qual : Str} {params : Arguments} {body : List Stmt} {scope : Scope} {dvs : List V} {kws : List (Str × V)} {f : Addr} {fd : FuncData} {G : Gx}
theorem fn_okG {N ps : List Str} {k : Nat} {A : Around} {b : Ms} (F : FunD K x qual params body scope dvs kws f fd) (S : FnScope N ps scope) (hr : Room (k + 1) A)
    (hb : ∀ (cdv : Value) (outer : List PySem.Env) (s : Shared) (H : Hp) (E : XK), Room k (A.deeper (envOfC qual scope s.heap.objs.size f cdv)) → PSs (cxOf CX0 P w K mg base N qual scope f cdv A outer s H E) body (rS G b)) :
    FnAt P w K mg base CX0 A f fd ps (spM G ps.length (bodyM N.length b)) := by
  obtain ⟨oc, od, dV, kV, doc, pm, an, cdv, ct, osl, rfl, lk, hcd, _, _⟩ := F.ex
  refine fn_ofG (k := k) lk hcd S (fun vs H Q E h => ?_) hr fun outer s H vs Q E hr' h => ⟨rS G b, hb cdv outer s H E hr', ?_⟩
  · obtain ⟨O, h, φ, xs, R, r, l, _⟩ := h
    rw [r.length, l]
  · obtain ⟨O, h, φ, xs, R, r, l, Pp⟩ := h
    refine ⟨O, h, φ, _, R, envR_start N r, (Pp.bind (rel := relF G)).mono fun v H1 ⟨y, h1, φ1, _, g1, r1, P1⟩ => ?_⟩
    obtain ⟨y, env1⟩ := y
    obtain ⟨v, σ1⟩ := v
    cases y with
    | nx =>
      cases v with
      | nx => exact P1 φ1 H1 .non (Go.refl g1.rep) (by simp only [relV, RV])
      | _ => exact r1.elim
    | bk =>
      cases v with
      | bk => exact P1.elim
      | _ => exact r1.elim
    | ct =>
      cases v with
      | ct => exact P1.elim
      | _ => exact r1.elim
    | rt a =>
      cases v with
      | rt v => exact P1 φ1 H1 v (Go.refl g1.rep) r1
      | _ => exact r1.elim
end
/-- the script, read only -/
theorem script_spM {G : Gx} {m : Mf} {H : Hp} {a : Addr} {ns : List Int} {E : XK} {h' : IH} (hO : Only H) (hS : SqL G.K H a (ns.map V.int)) (e : m [.rdl (ns.map .int)] [] = .ok (.bl true) h') : spM G 1 m [.ref a] H (fun v _ => v = .bl true) E := by
  have R : Rep G (fun _ => False) [] [] H := ⟨rfl, fun i j a o o' e _ _ _ => by simp at e, fun _ h => h.elim, fun i a o e _ => by simp at e, fun i o a e _ => by simp at e⟩
  have ri : ∀ l : List Int, RVs G (Lv (fun _ => False) [] []) [] H (l.map .int) (l.map V.int) := fun l => by
    induction l with
    | nil => simp [RVs]
    | cons i l ih =>
      simp only [List.map_cons, RVs, RV]
      exact ⟨_, _, rfl, rfl, ih⟩
  refine ⟨fun _ => False, [], [], [.rdl (ns.map .int)], R, ?_, rfl, ?_⟩
  · simp only [RVs, RV]
    refine ⟨.ref a, [], rfl, ⟨a, _, rfl, ?_, ri ns⟩, rfl⟩
    rcases hS with h | h
    · refine .inl ⟨h, fun l => ?_⟩
      rcases l with l | ⟨i, o, e, _⟩
      · exact l
      · simp at e
    · exact .inr h
  · rw [e]
    intro φ' H' v g r
    simp only [relV, RV] at r
    exact r
end Iv

/-! IwG: what the head asks of the heap: the module's constants as trees, classes, isinstance; the Hook. -/
namespace Iv
open PySem PySem.Spec PyProof.Rows L2
section
variable {G : Gx} {K : PySem.W.Frag}
mutual
theorem kT_ok (hK : G.K = K) : ∀ {x : IV} {u : Value}, kT K x u = true → ∃ v, RelV v u ∧ ∀ lv φ H, RV G lv φ H x v
  | .int i, .int j t, h => by
    simp only [kT, decide_eq_true_eq] at h
    exact ⟨.int i, ⟨t, by rw [h]⟩, fun _ _ _ => by simp only [RV]⟩
  | .str s, .str z t, h => by
    simp only [kT, decide_eq_true_eq] at h
    exact ⟨.str s, ⟨t, by rw [h]⟩, fun _ _ _ => by simp only [RV]⟩
  | .tup xs, .ref a, h => by
    simp only [kT] at h
    split at h
    · rename_i c od its n sl q
      simp only [Bool.and_eq_true, decide_eq_true_eq] at h
      obtain ⟨h1, h2, h3⟩ := h
      obtain ⟨vs, r, hv⟩ := kTs_ok hK h3
      refine ⟨.ref a, rfl, fun lv φ H => ?_⟩
      simp only [RV]
      exact ⟨a, vs, rfl, .inr ⟨_, its, n, hK ▸ q, congrArg Value.type h1, rfl, h2, r⟩, hv lv φ H⟩
    · cases h
theorem kTs_ok (hK : G.K = K) : ∀ {xs : List IV} {us : List Value}, kTs K xs us = true → ∃ vs, Vals vs us ∧ ∀ lv φ H, RVs G lv φ H xs vs
  | [], [], _ => ⟨[], .nil, fun _ _ _ => by simp only [RVs]⟩
  | x :: xs, u :: us, h => by
    simp only [kTs, Bool.and_eq_true] at h
    obtain ⟨v, r, hv⟩ := kT_ok hK h.1
    obtain ⟨vs, rs, hvs⟩ := kTs_ok hK h.2
    exact ⟨v :: vs, .cons r rs, fun lv φ H => by simp only [RVs]; exact ⟨v, vs, rfl, hv lv φ H, hvs lv φ H⟩⟩
end
theorem cB_ok (hK : G.K = K) {h : Heap} {mg : Str → Option Value} (X : K.In h) (N : h.Ns mainGlobals mg) {x : Str} {c : IV} (e : cB K x c = true) : ∃ v u, mg x = some u ∧ RelV v u ∧ ∀ lv φ H, RV G lv φ H c v := by
  unfold cB at e
  split at e
  · rename_i u q
    obtain ⟨v, r, hv⟩ := kT_ok hK e
    exact ⟨v, u, PySem.W.mg_of X N q, r, hv⟩
  · cases e
theorem ownB_ok {x : Str} (h : ownB K x = true) : OwnEq K (He.ga K x) (He.fAd K (x, some "__eq__")) := by
  simp only [ownB, Bool.and_eq_true, decide_eq_true_eq] at h
  exact ⟨h.1, h.2.1, h.2.2.1, h.2.2.2⟩
theorem clsB_ok {x : Str} (h : clsB K x = true) : ClsF K (He.ga K x) := by
  simp only [clsB, Bool.and_eq_true, decide_eq_true_eq] at h
  exact ⟨He.cls_ok h.1, h.2.1, h.2.2.1, h.2.2.2.1, h.2.2.2.2⟩
theorem facB_ok {cs fs : List Str} (hc : ∀ c, c < G.nc → ∃ x, cs[c]? = some x ∧ G.cad c = He.ga K x) (hf : ∀ n, n < G.nf → fs[n]? = some (G.fnm n)) (nd : fs.Nodup) (hK : G.K = K) (h : facB K cs fs = true) : Facts G := by
  simp only [facB, Bool.and_eq_true, List.all_eq_true] at h
  refine ⟨fun a b ha hb e => ?_, fun c h1 => ?_, fun c n h1 h2 => ?_⟩
  · have ea := hf a ha
    have eb := hf b hb
    rw [e] at ea
    exact (List.getElem?_inj (List.getElem?_eq_some_iff.mp ea).1 nd).mp (ea.trans eb.symm)
  · obtain ⟨x, e1, e2⟩ := hc c h1
    rw [e2, hK]
    exact clsB_ok (h.1 x (List.mem_of_getElem? e1))
  · obtain ⟨x, e1, e2⟩ := hc c h1
    rw [e2, hK]
    exact He.noat_ok (h.2 x (List.mem_of_getElem? e1) _ (List.mem_of_getElem? (hf n h2)))
theorem isB_ok {nc : Nat} {ys : List String} {cs : List Nat} {F : Value → Option Bool} (h : isB nc G.cad ys cs F = true) : ∀ t b, ktT nc ys cs t = some b → F (t.val G) = some b := by
  simp only [isB, Bool.and_eq_true, List.all_eq_true, decide_eq_true_eq] at h
  intro t b e
  cases t with
  | ty s =>
    simp only [ktT] at e
    split at e
    · rename_i hs
      rw [← e]
      exact h.1 s hs
    · cases e
  | cl c =>
    simp only [ktT] at e
    split at e
    · rename_i hs
      rw [← e]
      exact h.2 c (List.mem_range.mpr hs)
    · cases e
end
theorem binds_nil {K : PySem.W.Frag} {fd : FuncData} {ps : List Str} (h : ∃ ds, Vals ([] : List V) ds ∧ Binds K fd ps ds) : Binds K fd ps [] := by
  obtain ⟨ds, v, b⟩ := h
  cases v
  exact b
end Iv

/-! IxA: the pen: what _law_pen and _law_draw of every law do. -/
namespace Iv
open PySem L2
def m_pen : Ms := mRet (mNew (mCons (mLc (mSeq (mSl (mVar 0) (mNoE) (mEnd (mC (.int 63))))) (gN 1) [1] (mYes) (mBf bInt (mCons (mVar 1) (mNil)))) (mCons (mC (.int 0)) (mCons (mC (.int 0)) (mNil)))))
def mf_pen : Mf := bodyM 2 m_pen
def m_dr1 : Ms := mIfS (mCmpB .gt (mIx (mVar 0) (mC (.int 2))) (mC (.int 0))) (mThen (mSet 2 (mBf bInt (mCons (mIx (mVar 0) (mC (.int 2))) (mNil)))) (mThen (mItem (mVar 0) (mC (.int 2)) (mBin .fdiv (mVar 2) (mVar 1))) (mRet (mBin .mod (mBf bInt (mCons (mVar 2) (mNil))) (mVar 1))))) (mNx)
def m_dr2 : Ms := mSet 3 (mIx (mVar 0) (mC (.int 1)))
def m_dr3 : Ms := mItem (mVar 0) (mC (.int 1)) (mBin .add (mVar 3) (mC (.int 1)))
def m_dr4 : Ms := mSet 4 (mBin .add (mBin .mul (mC (.int 70867)) (mVar 3)) (mC (.int 13127)))
def m_dr5 : Ms := mIfS (mCmpB .ne (mIx (mVar 0) (mC (.int 0))) (mLst (mNil))) (mSet 4 (mIx (mIx (mVar 0) (mC (.int 0))) (mBin .mod (mBf bInt (mCons (mVar 3) (mNil))) (mBf bLen (mCons (mIx (mVar 0) (mC (.int 0))) (mNil)))))) (mNx)
def m_dr6 : Ms := mIfS (mAnd (mCmpB .lt (mVar 3) (mBf bLen (mCons (mIx (mVar 0) (mC (.int 0))) (mNil)))) (mCmpB .ge (mBf bAbs (mCons (mVar 4) (mNil))) (mBin .pow (mC (.int 10)) (mC (.int 18))))) (mThen (mSet 2 (mBin .add (mBin .mul (mC (.int 2)) (mBin .sub (mBf bAbs (mCons (mVar 4) (mNil))) (mBin .pow (mC (.int 10)) (mC (.int 18))))) (mBf bInt (mCons (mB (mCmpB .lt (mVar 4) (mC (.int 0)))) (mNil))))) (mThen (mItem (mVar 0) (mC (.int 2)) (mBin .fdiv (mBf bInt (mCons (mVar 2) (mNil))) (mVar 1))) (mRet (mBin .mod (mBf bInt (mCons (mVar 2) (mNil))) (mVar 1))))) (mNx)
def m_dr7 : Ms := mSet 5 (mBin .mod (mBf bInt (mCons (mBin .pow (mBin .add (mBin .add (mBin .mod (mBf bInt (mCons (mVar 4) (mNil))) (mC (.int 2147483549))) (mBin .mul (mC (.int 70867)) (mVar 3))) (mC (.int 13127))) (mC (.int 5))) (mNil))) (mC (.int 2147483629)))
def m_dr8 : Ms := mSet 5 (mBin .mod (mBf bInt (mCons (mBin .pow (mBin .add (mBin .add (mBin .mul (mVar 5) (mBin .add (mBin .mul (mC (.int 2)) (mVar 3)) (mC (.int 7193)))) (mBin .mul (mBin .mul (mC (.int 38011)) (mVar 3)) (mVar 3))) (mC (.int 70867))) (mC (.int 3))) (mNil))) (mC (.int 2147483587)))
def m_dr9 : Ms := mRet (mBin .mod (mBf bInt (mCons (mBin .fdiv (mVar 5) (mC (.int 64))) (mNil))) (mVar 1))
def m_draw : Ms := mThen m_dr1 (mThen m_dr2 (mThen m_dr3 (mThen m_dr4 (mThen m_dr5 (mThen m_dr6 (mThen m_dr7 (mThen m_dr8 m_dr9)))))))
def mf_draw : Mf := bodyM 6 m_draw
/-- the pen's list -/
def penO (cs : List Int) (t r : Int) : IO := .lst [.lst (cs.map .int), .int t, .int r]
section
variable {n : Nat} {h : IH} {cs : List Int} {t r m : Int} {env : Env}
theorem view_pen (hn : h[n]? = some (some (penO cs t r))) : view h (.ref n) = .lst [.lst (cs.map .int), .int t, .int r] := by
  simp only [view, hn, viewO, penO]
theorem lt_of_at {α : Type} {l : List α} {i : Nat} {x : α} (e : l[i]? = some x) : i < l.length := (List.getElem?_eq_some_iff.mp e).1
theorem mThen_nx {f g : Ms} {env env1 : Env} {h h1 : IH} (e : f env h = .ok (.nx, env1) h1) : mThen f g env h = g env1 h1 := by
  simp only [mThen, e, Res.bind]
theorem mThen_rt {f g : Ms} {env env1 : Env} {h h1 : IH} {v : IV} (e : f env h = .ok (.rt v, env1) h1) : mThen f g env h = .ok (.rt v, env1) h1 := by
  simp only [mThen, e, Res.bind]
end
section
variable {α β : Type} {h h1 : IH} {x : IV} {env : Env}
@[simp] theorem rbind_ok {a : α} {f : α → IH → Res β} : (Res.ok a h).bind f = f a h := rfl
@[simp] theorem rbind_bad {f : α → IH → Res β} : (Res.bad : Res α).bind f = .bad := rfl
@[simp] theorem rofO_some {a : α} : Res.ofO (some a) h = .ok a h := rfl
@[simp] theorem rofO_none : Res.ofO (none : Option α) h = .bad := rfl
@[simp] theorem view_non : view h .non = .non := rfl
@[simp] theorem view_bl {b : Bool} : view h (.bl b) = .bl b := rfl
@[simp] theorem view_int {i : Int} : view h (.int i) = .int i := rfl
@[simp] theorem view_str {s : Str} : view h (.str s) = .str s := rfl
@[simp] theorem view_tup {xs : List IV} : view h (.tup xs) = .tup xs := rfl
@[simp] theorem view_tpx {xs : List IV} : view h (.tpx xs) = .tup xs := rfl
@[simp] theorem view_lst {xs : List IV} : view h (.lst xs) = .lst xs := rfl
@[simp] theorem view_rdl {xs : List IV} : view h (.rdl xs) = .rdl xs := rfl
@[simp] theorem view_dic {xs ys : List IV} : view h (.dic xs ys) = .dic xs ys := rfl
@[simp] theorem view_dcn {xs ys : List IV} : view h (.dcn xs ys) = .dcn xs ys := rfl
@[simp] theorem view_ins {c : Nat} {ns : List Nat} {vs : List IV} : view h (.ins c ns vs) = .ins c ns vs := rfl
@[simp] theorem ixI_lst {xs : List IV} {i : Int} : ixI (.lst xs) (.int i) = atI xs i := rfl
@[simp] theorem ixI_tup {xs : List IV} {i : Int} : ixI (.tup xs) (.int i) = atI xs i := rfl
theorem atI_nat {xs : List α} {k : Nat} : atI xs (k : Int) = xs[k]? := by
  unfold atI ixN
  by_cases hk : k < xs.length
  · rw [if_pos (by omega), if_pos (by omega)]
    simp
  · rw [if_pos (by omega), if_neg (by omega), List.getElem?_eq_none (by omega)]
    rfl
@[simp] theorem add_int {i j : Int} : binI .add (.int i) (.int j) = some (.int (i + j)) := rfl
@[simp] theorem sub_int {i j : Int} : binI .sub (.int i) (.int j) = some (.int (i - j)) := rfl
@[simp] theorem mul_int {i j : Int} : binI .mul (.int i) (.int j) = if (-(2 ^ 64) < i ∧ i < 2 ^ 64) ∨ (-(2 ^ 64) < j ∧ j < 2 ^ 64) then some (.int (i * j)) else none := rfl
@[simp] theorem fdiv_int {i j : Int} : binI .fdiv (.int i) (.int j) = if j ≠ 0 ∧ j.natAbs < 1073741824 then some (.int (i.fdiv j)) else none := rfl
@[simp] theorem mod_int {i j : Int} : binI .mod (.int i) (.int j) = if j ≠ 0 then some (.int (i.fmod j)) else none := rfl
@[simp] theorem pow_int {i j : Int} : binI .pow (.int i) (.int j) = if 0 ≤ j ∧ j ≤ 1000000 ∧ i.natAbs < 2 ^ 64 then some (.int (i ^ j.toNat)) else none := rfl
@[simp] theorem lt_int {i j : Int} : cmpI .lt (.int i) (.int j) = some (decide (i < j)) := rfl
@[simp] theorem le_int {i j : Int} : cmpI .le (.int i) (.int j) = some (decide (i ≤ j)) := rfl
@[simp] theorem gt_int {i j : Int} : cmpI .gt (.int i) (.int j) = some (decide (j < i)) := rfl
@[simp] theorem ge_int {i j : Int} : cmpI .ge (.int i) (.int j) = some (decide (j ≤ i)) := rfl
@[simp] theorem atI_0 {xs : List α} : atI xs 0 = xs[0]? := atI_nat (k := 0)
@[simp] theorem atI_1 {xs : List α} : atI xs 1 = xs[1]? := atI_nat (k := 1)
@[simp] theorem atI_2 {xs : List α} : atI xs 2 = xs[2]? := atI_nat (k := 2)
@[simp] theorem atI_3 {xs : List α} : atI xs 3 = xs[3]? := atI_nat (k := 3)
@[simp] theorem atI_4 {xs : List α} : atI xs 4 = xs[4]? := atI_nat (k := 4)
end
section
variable {n : Nat} {h : IH} {cs : List Int} {t r m : Int} {env : Env}
theorem dr1_no {a2 a3 a4 a5 : Option IV} (hn : h[n]? = some (some (penO cs t r))) (hr : ¬ 0 < r) : m_dr1 [some (.ref n), some (.int m), a2, a3, a4, a5] h = .ok (.nx, [some (.ref n), some (.int m), a2, a3, a4, a5]) h := by
  simp [m_dr1, mIfS, mCmpB, mIx, mVar, mC, view_pen hn, hr, mNx]
theorem dr1_yes {a2 a3 a4 a5 : Option IV} (hn : h[n]? = some (some (penO cs t r))) (hr : 0 < r) (hm : m ≠ 0) (hm2 : m.natAbs < 1073741824) :
    m_dr1 [some (.ref n), some (.int m), a2, a3, a4, a5] h = .ok (.rt (.int (r.fmod m)), [some (.ref n), some (.int m), some (.int r), a3, a4, a5]) (h.set n (some (penO cs t (r.fdiv m)))) := by
  simp [m_dr1, mIfS, mCmpB, mIx, mVar, mC, view_pen hn, hr, mNx, mThen, mSet, mBf, mCons, mNil, bInt, mItem, mBin, mRet, hm, hm2, hn, penO, ixN]
theorem dr2_ok {a2 a3 a4 a5 : Option IV} (hn : h[n]? = some (some (penO cs t r))) : m_dr2 [some (.ref n), some (.int m), a2, a3, a4, a5] h = .ok (.nx, [some (.ref n), some (.int m), a2, some (.int t), a4, a5]) h := by
  simp [m_dr2, mSet, mIx, mVar, mC, view_pen hn]
theorem dr3_ok {a2 a4 a5 : Option IV} (hn : h[n]? = some (some (penO cs t r))) : m_dr3 [some (.ref n), some (.int m), a2, some (.int t), a4, a5] h = .ok (.nx, [some (.ref n), some (.int m), a2, some (.int t), a4, a5]) (h.set n (some (penO cs (t + 1) r))) := by
  simp [m_dr3, mItem, mBin, mVar, mC, hn, penO, ixN]
theorem dr4_ok {a2 a4 a5 : Option IV} : m_dr4 [some (.ref n), some (.int m), a2, some (.int t), a4, a5] h = .ok (.nx, [some (.ref n), some (.int m), a2, some (.int t), some (.int (70867 * t + 13127)), a5]) h := by
  simp [m_dr4, mSet, mBin, mVar, mC]
theorem pds_ints : ∀ cs : List Int, pds (cs.map IV.int) = some (cs.map PyData.int)
  | [] => rfl
  | c :: cs => by simp [pds, pd, pds_ints cs]
theorem lay_ints : ∀ cs : List Int, PyData.canLayAll0 (cs.map PyData.int) = true
  | [] => rfl
  | c :: cs => by simp [PyData.canLayAll0, PyData.canLay0, lay_ints cs]
theorem dep_ints : ∀ cs : List Int, PyData.depthAll (cs.map PyData.int) = 0
  | [] => rfl
  | c :: cs => by simp [PyData.depthAll, PyData.depth, dep_ints cs]
theorem ne_nil_ints : cmpI .ne (.lst (cs.map .int)) (.lst []) = some (!cs.isEmpty) := by
  simp only [cmpI, notO, eqI, pd, pds, pds_ints, Option.map]
  have s1 : SeqAt.shaped (.list (cs.map PyData.int)) = true := by simp [SeqAt.shaped, PyData.canLay0, PyData.depth, lay_ints, dep_ints]
  have s2 : SeqAt.shaped (.list []) = true := by decide
  rw [s1, s2]
  cases cs <;> simp [PyData.eqv, PyData.eqvAll]
theorem atI_ints {i : Int} (h0 : 0 ≤ i) (h1 : i < cs.length) : ∃ c, atI (cs.map IV.int) i = some (.int c) := by
  obtain ⟨k, rfl⟩ := Int.eq_ofNat_of_zero_le h0
  rw [atI_nat]
  exact ⟨cs[k]'(by omega), by simp [List.getElem?_eq_getElem (show k < cs.length by omega)]⟩
theorem dr5_ok {a2 a5 : Option IV} {c0 : Int} (ht : 0 ≤ t) (hn : h[n]? = some (some (penO cs (t + 1) r))) : ∃ c, m_dr5 [some (.ref n), some (.int m), a2, some (.int t), some (.int c0), a5] h = .ok (.nx, [some (.ref n), some (.int m), a2, some (.int t), some (.int c), a5]) h := by
  cases cs with
  | nil =>
    refine ⟨c0, ?_⟩
    have q := ne_nil_ints (cs := [])
    simp only [List.map_nil] at q
    simp [m_dr5, mIfS, mCmpB, mIx, mVar, mC, view_pen hn, mLst, mNil, q, mNx]
  | cons c cs =>
    have q := ne_nil_ints (cs := c :: cs)
    have l1 : (0 : Int) < (cs.length : Int) + 1 := by omega
    have l0 : ¬ ((cs.length : Int) + 1 = 0) := by omega
    obtain ⟨x, e⟩ := atI_ints (cs := c :: cs) (i := t.fmod ((cs.length : Int) + 1)) (Int.fmod_nonneg_of_pos _ l1) (by have := Int.fmod_lt_of_pos t l1; simpa using this)
    refine ⟨x, ?_⟩
    simp only [List.map_cons, List.isEmpty_cons, Bool.not_false] at q e
    simp [m_dr5, mIfS, mCmpB, mIx, mVar, mC, view_pen hn, mLst, mNil, q, mNx, mSet, mBin, mBf, mCons, bInt, bLen, lenI, l0, e]
theorem dr6_no {a2 a5 : Option IV} {c : Int} (hn : h[n]? = some (some (penO cs (t + 1) r))) (hc : ¬ (t < cs.length ∧ 10 ^ 18 ≤ (if c < 0 then -c else c))) : m_dr6 [some (.ref n), some (.int m), a2, some (.int t), some (.int c), a5] h = .ok (.nx, [some (.ref n), some (.int m), a2, some (.int t), some (.int c), a5]) h := by
  by_cases h1 : t < cs.length
  · have h2 : ¬ (1000000000000000000 ≤ (if c < 0 then -c else c)) := fun z => hc ⟨h1, z⟩
    simp [m_dr6, mIfS, mAnd, mCmpB, mIx, mVar, mC, view_pen hn, mNil, mNx, mBin, mBf, mCons, bAbs, bLen, lenI, h1, h2]
  · simp [m_dr6, mIfS, mAnd, mCmpB, mIx, mVar, mC, view_pen hn, mNil, mNx, mBin, mBf, mCons, bAbs, bLen, lenI, h1]
theorem dr6_yes {a2 a5 : Option IV} {c : Int} (hn : h[n]? = some (some (penO cs (t + 1) r))) (h1 : t < cs.length) (h2 : 10 ^ 18 ≤ (if c < 0 then -c else c)) (hm : m ≠ 0) (hm2 : m.natAbs < 1073741824) :
    ∃ q : Int, 0 ≤ q ∧ ∃ env, m_dr6 [some (.ref n), some (.int m), a2, some (.int t), some (.int c), a5] h = .ok (.rt (.int (q.fmod m)), env) (h.set n (some (penO cs (t + 1) (q.fdiv m)))) := by
  refine ⟨2 * ((if c < 0 then -c else c) - 1000000000000000000) + (if c < 0 then 1 else 0), by split <;> omega, [some (.ref n), some (.int m), some (.int (2 * ((if c < 0 then -c else c) - 1000000000000000000) + (if c < 0 then 1 else 0))), some (.int t), some (.int c), a5], ?_⟩
  have h2 : (1000000000000000000 ≤ (if c < 0 then -c else c)) := h2
  simp [m_dr6, mIfS, mAnd, mCmpB, mIx, mVar, mC, view_pen hn, mNil, mNx, mBin, mBf, mCons, bAbs, bLen, lenI, h1, h2, mThen, mSet, bInt, mB, mItem, mRet, hm, hm2, hn, penO, ixN]
theorem dr7_ok {a2 a5 : Option IV} {c : Int} (ht : 0 ≤ t) (ht2 : t < 2 ^ 30) : ∃ x : Int, 0 ≤ x ∧ x < 2 ^ 31 ∧ m_dr7 [some (.ref n), some (.int m), a2, some (.int t), some (.int c), a5] h = .ok (.nx, [some (.ref n), some (.int m), a2, some (.int t), some (.int c), some (.int x)]) h := by
  have p0 : (0 : Int) < 2147483549 := by decide
  have a := Int.fmod_nonneg_of_pos c p0
  have b := Int.fmod_lt_of_pos c p0
  have g : (c.fmod 2147483549 + 70867 * t + 13127).natAbs < 18446744073709551616 := by omega
  have p1 : (0 : Int) < 2147483629 := by decide
  refine ⟨_, Int.fmod_nonneg_of_pos ((c.fmod 2147483549 + 70867 * t + 13127) ^ 5) p1, Int.lt_trans (Int.fmod_lt_of_pos _ p1) (by decide), ?_⟩
  simp [m_dr7, mSet, mBin, mBf, mCons, mNil, mVar, mC, bInt, g]
theorem dr8_ok {a2 a4 : Option IV} {x : Int} (ht : 0 ≤ t) (ht2 : t < 2 ^ 20) (hx : 0 ≤ x) (hx2 : x < 2 ^ 31) : ∃ x' : Int, 0 ≤ x' ∧ x' < 2 ^ 31 ∧ m_dr8 [some (.ref n), some (.int m), a2, some (.int t), a4, some (.int x)] h = .ok (.nx, [some (.ref n), some (.int m), a2, some (.int t), a4, some (.int x')]) h := by
  have p1 : (0 : Int) < 2147483587 := by decide
  have u : 0 ≤ x * (2 * t + 7193) := Int.mul_nonneg hx (by omega)
  have u2 : x * (2 * t + 7193) ≤ 2 ^ 31 * 2 ^ 22 := Int.mul_le_mul (by omega) (by omega) (by omega) (by decide)
  have v : 0 ≤ 38011 * t * t := Int.mul_nonneg (by omega) ht
  have v2 : 38011 * t * t ≤ (38011 * 2 ^ 20) * 2 ^ 20 := Int.mul_le_mul (by omega) (by omega) (by omega) (by decide)
  have g : (x * (2 * t + 7193) + 38011 * t * t + 70867).natAbs < 18446744073709551616 := by omega
  have hx3 : x < 18446744073709551616 := by omega
  have hx4 : -18446744073709551616 < x := by omega
  have ht3 : t < 18446744073709551616 := by omega
  have ht4 : -18446744073709551616 < t := by omega
  refine ⟨_, Int.fmod_nonneg_of_pos ((x * (2 * t + 7193) + 38011 * t * t + 70867) ^ 3) p1, Int.lt_trans (Int.fmod_lt_of_pos _ p1) (by decide), ?_⟩
  simp [m_dr8, mSet, mBin, mBf, mCons, mNil, mVar, mC, bInt, g, hx3, hx4, ht3, ht4]
theorem dr9_ok {a2 a4 : Option IV} {x : Int} (hm : m ≠ 0) : m_dr9 [some (.ref n), some (.int m), a2, some (.int t), a4, some (.int x)] h = .ok (.rt (.int ((x.fdiv 64).fmod m)), [some (.ref n), some (.int m), a2, some (.int t), a4, some (.int x)]) h := by
  simp [m_dr9, mRet, mBin, mBf, mCons, mNil, mVar, mC, bInt, hm]
/-- a draw -/
theorem draw_ok (hn : h[n]? = some (some (penO cs t r))) (ht : 0 ≤ t) (ht2 : t < 2 ^ 20) (hr : 0 ≤ r) (hm : 0 < m) (hm2 : m < 1073741824) :
    ∃ d t' r', mf_draw [.ref n, .int m] h = .ok (.int d) (h.set n (some (penO cs t' r'))) ∧ 0 ≤ d ∧ d < m ∧ 0 ≤ t' ∧ t' ≤ t + 1 ∧ 0 ≤ r' := by
  have m0 : m ≠ 0 := by omega
  have m1 : m.natAbs < 1073741824 := by omega
  have fd : ∀ q : Int, 0 ≤ q → 0 ≤ q.fdiv m := fun q hq => by rw [Int.fdiv_eq_ediv_of_nonneg _ (by omega)]; exact Int.ediv_nonneg hq (by omega)
  have start : mf_draw [.ref n, .int m] h = (m_draw [some (.ref n), some (.int m), none, none, none, none] h).bind fun r h1 => match r with
    | (.rt v, _) => .ok v h1
    | (.nx, _) => .ok .non h1
    | _ => .bad := rfl
  by_cases r0 : 0 < r
  · refine ⟨r.fmod m, t, r.fdiv m, ?_, Int.fmod_nonneg_of_pos _ hm, Int.fmod_lt_of_pos _ hm, ht, by omega, fd r hr⟩
    rw [start, m_draw, mThen_rt (dr1_yes hn r0 m0 m1)]
    rfl
  · have hn1 : (h.set n (some (penO cs (t + 1) r)))[n]? = some (some (penO cs (t + 1) r)) := by simp [List.getElem?_set_self', hn]
    obtain ⟨c, e5⟩ := dr5_ok (h := h.set n (some (penO cs (t + 1) r))) (m := m) (a2 := none) (a5 := none) (c0 := 70867 * t + 13127) ht hn1
    have e : mf_draw [.ref n, .int m] h = ((mThen m_dr6 (mThen m_dr7 (mThen m_dr8 m_dr9))) [some (.ref n), some (.int m), none, some (.int t), some (.int c), none] (h.set n (some (penO cs (t + 1) r)))).bind fun r h1 => match r with
      | (.rt v, _) => .ok v h1
      | (.nx, _) => .ok .non h1
      | _ => .bad := by
      rw [start, m_draw, mThen_nx (dr1_no hn r0), mThen_nx (dr2_ok hn), mThen_nx (dr3_ok hn), mThen_nx dr4_ok, mThen_nx e5]
    by_cases hc : t < cs.length ∧ 10 ^ 18 ≤ (if c < 0 then -c else c)
    · obtain ⟨q, hq, env, e6⟩ := dr6_yes (a2 := none) (a5 := none) (m := m) hn1 hc.1 hc.2 m0 m1
      refine ⟨q.fmod m, t + 1, q.fdiv m, ?_, Int.fmod_nonneg_of_pos _ hm, Int.fmod_lt_of_pos _ hm, by omega, by omega, fd q hq⟩
      rw [e, mThen_rt e6]
      simp
    · obtain ⟨x, hx, hx2, e7⟩ := dr7_ok (n := n) (h := h.set n (some (penO cs (t + 1) r))) (m := m) (a2 := none) (a5 := none) (c := c) ht (by omega)
      obtain ⟨x', hx', hx2', e8⟩ := dr8_ok (n := n) (h := h.set n (some (penO cs (t + 1) r))) (m := m) (a2 := none) (a4 := some (.int c)) ht ht2 hx hx2
      refine ⟨(x'.fdiv 64).fmod m, t + 1, r, ?_, Int.fmod_nonneg_of_pos _ hm, Int.fmod_lt_of_pos _ hm, by omega, by omega, hr⟩
      rw [e, mThen_nx (dr6_no hn1 hc), mThen_nx e7, mThen_nx e8, dr9_ok m0]
      rfl
end
end Iv

/-! IxB: the pen made; loops of machines. -/
namespace Iv
open PySem L2
section
variable {n : Nat} {h : IH} {env : Env} {g : Mg} {c : Mb} {e : Mv} {b : Ms}
theorem lc_map {f : IV → IV} : ∀ {xs : List IV}, (∀ x ∈ xs, ∃ env1, g x env = some env1 ∧ c env1 h = .ok true h ∧ e env1 h = .ok (f x) h) → lcLoop g c e env xs h = .ok (xs.map f) h
  | [], _ => rfl
  | x :: xs, hx => by
    obtain ⟨env1, e1, e2, e3⟩ := hx x List.mem_cons_self
    have ih := lc_map (f := f) (xs := xs) fun y hy => hx y (List.mem_cons_of_mem _ hy)
    rw [lcLoop, e1]
    simp only [e2, rbind_ok, if_true, e3, ih, List.map_cons]
theorem lc_cons {x y : IV} {xs ys : List IV} {env1 : Env} {h1 h2 : IH} (e1 : g x env = some env1) (e2 : c env1 h = .ok true h) (e3 : e env1 h = .ok y h1) (e4 : lcLoop g c e env xs h1 = .ok ys h2) : lcLoop g c e env (x :: xs) h = .ok (y :: ys) h2 := by
  rw [lcLoop, e1]
  simp only [e2, rbind_ok, if_true, e3, e4]
theorem for_inv {I : Nat → Env → IH → Prop} {xs : List IV} : ∀ {ys : List IV} {k : Nat} {env : Env} {h : IH}, xs.length = k + ys.length → (∀ i, ys[i]? = xs[k + i]?) → (∀ j x env h, k ≤ j → xs[j]? = some x → I j env h → ∃ env1, g x env = some env1 ∧ ∃ env2 h2, b env1 h = .ok (.nx, env2) h2 ∧ I (j + 1) env2 h2) → I k env h →
    ∃ env' h', forLoop g b ys env h = .ok (.nx, env') h' ∧ I xs.length env' h'
  | [], k, env, h, l, _, _, i => ⟨env, h, rfl, by rw [l]; exact i⟩
  | y :: ys, k, env, h, l, hy, st, i => by
    obtain ⟨env1, e1, env2, h2, e2, i2⟩ := st k y env h (Nat.le_refl _) (by have := hy 0; simpa using this.symm) i
    obtain ⟨env', h', e3, i3⟩ := for_inv (I := I) (xs := xs) (ys := ys) (k := k + 1) (env := env2) (h := h2) (by simp at l; omega) (fun i => by have := hy (i + 1); rw [List.getElem?_cons_succ] at this; rw [this]; congr 1; omega)
      (fun j x env h hj => st j x env h (by omega)) i2
    refine ⟨env', h', ?_, i3⟩
    rw [forLoop, e1]
    simp only [e2, rbind_ok, e3]
/-- a loop that goes through, by what holds ahead of each turn -/
theorem for_runs {I : Nat → Env → IH → Prop} {xs : List IV} (i : I 0 env h) (st : ∀ j x env h, xs[j]? = some x → I j env h → ∃ env1, g x env = some env1 ∧ ∃ env2 h2, b env1 h = .ok (.nx, env2) h2 ∧ I (j + 1) env2 h2) :
    ∃ env' h', forLoop g b xs env h = .ok (.nx, env') h' ∧ I xs.length env' h' :=
  for_inv (I := I) (xs := xs) (k := 0) (by simp) (fun i => by simp) (fun j x env h _ => st j x env h) i
theorem pen_ok {ns : List Int} : mf_pen [.rdl (ns.map .int)] h = .ok (.ref h.length) (h ++ [some (penO (ns.take 63) 0 0)]) := by
  have q : ∀ env : Env, env.length = 2 → lcLoop (gN 1) mYes (mBf bInt (mCons (mVar 1) (mNil))) env ((ns.take 63).map IV.int) h = .ok (((ns.take 63).map IV.int).map id) h := fun env hl => lc_map fun x hx => by
    obtain ⟨i, _, rfl⟩ := List.mem_map.mp hx
    match env, hl with
    | [a, b], _ => exact ⟨_, rfl, rfl, by simp [mBf, mCons, mNil, mVar, bInt]⟩
  have cut : cutI (ns.map IV.int) none (some 63) = (ns.take 63).map IV.int := by
    simp only [cutI, HT.sIx]
    rw [if_neg (by decide)]
    simp only [List.length_map, List.drop_zero, Nat.sub_zero, List.map_take]
    rw [show (63 : Int).toNat = 63 from rfl]
    by_cases hl : 63 ≤ ns.length
    · rw [Nat.min_eq_left hl]
    · rw [Nat.min_eq_right (by omega), List.take_of_length_le (by simp), List.take_of_length_le (by simp; omega)]
  have l1 : ((ns.take 63).map IV.int).length ≤ sizeLine := by simp [sizeLine]; omega
  have q2 := q (wipeI [some (.rdl (ns.map .int)), none] [1]) rfl
  rw [List.map_id] at q2
  have m : mLc (mSeq (mSl (mVar 0) (mNoE) (mEnd (mC (.int 63))))) (gN 1) [1] (mYes) (mBf bInt (mCons (mVar 1) (mNil))) [some (.rdl (ns.map .int)), none] h = .ok (.lst ((ns.take 63).map .int)) h := by
    unfold mLc
    have s : mSeq (mSl (mVar 0) (mNoE) (mEnd (mC (.int 63)))) [some (.rdl (ns.map .int)), none] h = .ok ((ns.take 63).map .int) h := by
      simp [mSeq, mSl, mVar, mNoE, mEnd, mC, slI, cut, seqI]
    rw [s, rbind_ok, if_pos l1, q2]
    rfl
  have two : bodyM 2 m_pen [.rdl (ns.map .int)] h = (m_pen [some (.rdl (ns.map .int)), none] h).bind fun r h1 => match r with
    | (.rt v, _) => .ok v h1
    | (.nx, _) => .ok .non h1
    | _ => .bad := rfl
  have nw : ∀ (L : Mv) (r : Ma) (env : Env) (x : IV), L env h = .ok x h → mNew (mCons L r) env h = ((r env h).bind fun xs h2 => .ok (x :: xs) h2).bind fun xs h1 => if xs.length ≤ sizeLine then .ok (.ref h1.length) (h1 ++ [some (.lst xs)]) else .bad := fun L r env x e => by
    simp only [mNew, mCons, e, rbind_ok]
  rw [mf_pen, two, m_pen]
  unfold mRet
  rw [nw _ _ _ _ m]
  simp [mCons, mNil, mC, sizeLine, penO]
end
/-- the pen stands at n, few cells were begun -/
def Pen (k : Int) (n : Nat) (h : IH) : Prop := ∃ cs t r, h[n]? = some (some (penO cs t r)) ∧ 0 ≤ t ∧ t ≤ k ∧ 0 ≤ r
theorem Pen.draw {k m : Int} {n : Nat} {h : IH} (p : Pen k n h) (hk : k < 2 ^ 20) (hm : 0 < m) (hm2 : m < 1073741824) :
    ∃ d h', mf_draw [.ref n, .int m] h = .ok (.int d) h' ∧ 0 ≤ d ∧ d < m ∧ Pen (k + 1) n h' ∧ h'.length = h.length ∧ ∀ j, j ≠ n → h'[j]? = h[j]? := by
  obtain ⟨cs, t, r, hn, ht, hk2, hr⟩ := p
  obtain ⟨d, t', r', e, d0, d1, t0, t1, r0⟩ := draw_ok hn ht (by omega) hr hm hm2
  refine ⟨d, _, e, d0, d1, ⟨cs, t', r', by simp [List.getElem?_set_self', hn], t0, by omega, r0⟩, by simp, fun j hj => by rw [List.getElem?_set_ne (Ne.symm hj)]⟩
end Iv

/-! IxC: the machine's forms, as equations; printed by gen_eqs.py, and what they need. -/
namespace Iv
open PySem L2
@[simp] theorem e_mVar (i : Nat) {env : Env} {h : IH} : mVar i  env h = (match env[i]? with
  | some (some x) => .ok x h
  | _ => .bad) := rfl
@[simp] theorem e_mC (x : IV) {e0 : Env} {h : IH} : mC x  e0 h = .ok x h := rfl
@[simp] theorem e_mBin (o : Bop) (fa fb : Mv) {env : Env} {h : IH} : mBin o  fa fb  env h = (fa env h).bind fun x h1 => (fb env h1).bind fun y h2 => .ofO (binI o (view h2 x) (view h2 y)) h2 := rfl
@[simp] theorem e_mCmpB (o : Cop) (fa fb : Mv) {env : Env} {h : IH} : mCmpB o  fa fb  env h = (fa env h).bind fun x h1 => (fb env h1).bind fun y h2 => .ofO (cmpI o (view h2 x) (view h2 y)) h2 := rfl
@[simp] theorem e_mB (f : Mb) {env : Env} {h : IH} : mB f  env h = (f env h).bind fun b h1 => .ok (.bl b) h1 := rfl
@[simp] theorem e_mChn (o o' : Cop) (fa fb fc : Mv) {env : Env} {h : IH} : mChn o o'  fa fb fc  env h = ((fa env h).bind fun x h1 => (fb env h1).bind fun y h2 => match cmpI o (view h2 x) (view h2 y) with
  | some true => (fc env h2).bind fun z h3 => .ofO (cmpI o' (view h3 y) (view h3 z)) h3
  | some false => .ok false h2
  | none => .bad) := rfl
@[simp] theorem e_mTru (f : Mv) {env : Env} {h : IH} : mTru f  env h = (f env h).bind fun x h1 => .ofO (truI (view h1 x)) h1 := rfl
@[simp] theorem e_mNot (f : Mb) {env : Env} {h : IH} : mNot f  env h = (f env h).bind fun b h1 => .ok (!b) h1 := rfl
@[simp] theorem e_mAnd (f g : Mb) {env : Env} {h : IH} : mAnd f g  env h = (f env h).bind fun b h1 => if b = true then g env h1 else .ok false h1 := rfl
@[simp] theorem e_mOr (f g : Mb) {env : Env} {h : IH} : mOr f g  env h = (f env h).bind fun b h1 => if b = true then .ok true h1 else g env h1 := rfl
@[simp] theorem e_mAndV (f g : Mv) {env : Env} {h : IH} : mAndV f g  env h = (f env h).bind fun x h1 => (asB x h1).bind fun b h2 => if b = true then g env h2 else .ok (.bl false) h2 := rfl
@[simp] theorem e_mOrV (f g : Mv) {env : Env} {h : IH} : mOrV f g  env h = (f env h).bind fun x h1 => (asB x h1).bind fun b h2 => if b = true then .ok (.bl true) h2 else g env h2 := rfl
@[simp] theorem e_mNotV (f : Mv) {env : Env} {h : IH} : mNotV f  env h = (f env h).bind fun x h1 => (asB x h1).bind fun b h2 => .ok (.bl (!b)) h2 := rfl
@[simp] theorem e_mIf (t : Mb) (f g : Mv) {env : Env} {h : IH} : mIf t  f g  env h = (t env h).bind fun b h1 => if b = true then f env h1 else g env h1 := rfl
@[simp] theorem e_mNeg (f : Mv) {env : Env} {h : IH} : mNeg f  env h = ((f env h).bind fun x h1 => match x with
  | .int i => .ok (.int (-i)) h1
  | _ => .bad) := rfl
@[simp] theorem e_mFrz (f : Mv) {env : Env} {h : IH} : mFrz f  env h = (f env h).bind fun x h1 => frz x h1 := rfl
@[simp] theorem e_mNil {e0 : Env} {h : IH} : mNil  e0 h = .ok [] h := rfl
@[simp] theorem e_mCons (f : Mv) (g : Ma) {env : Env} {h : IH} : mCons f  g  env h = (f env h).bind fun x h1 => (g env h1).bind fun xs h2 => .ok (x :: xs) h2 := rfl
@[simp] theorem e_mStar (f : Mv) (g : Ma) {env : Env} {h : IH} : mStar f  g  env h = ((f env h).bind fun x h1 => match view h1 x with
  | .tup ys => (g env h1).bind fun xs h2 => .ok (ys ++ xs) h2
  | .lst ys => (g env h1).bind fun xs h2 => .ok (ys ++ xs) h2
  | _ => .bad) := rfl
@[simp] theorem e_mTup (g : Ma) {env : Env} {h : IH} : mTup g  env h = (g env h).bind fun xs h1 => if xs.length ≤ sizeLine then .ok (.tup xs) h1 else .bad := rfl
@[simp] theorem e_mLst (g : Ma) {env : Env} {h : IH} : mLst g  env h = (g env h).bind fun xs h1 => if xs.length ≤ sizeLine then .ok (.lst xs) h1 else .bad := rfl
@[simp] theorem e_mNew (g : Ma) {env : Env} {h : IH} : mNew g  env h = (g env h).bind fun xs h1 => if xs.length ≤ sizeLine then .ok (.ref h1.length) (h1 ++ [some (.lst xs)]) else .bad := rfl
@[simp] theorem e_mFld (n : Nat) (f : Mv) {env : Env} {h : IH} : mFld n  f  env h = ((f env h).bind fun x h1 => match view h1 x with
  | .ins c ns vs => .ofO (look n ns vs) h1
  | _ => .bad) := rfl
@[simp] theorem e_mIx (fa fb : Mv) {env : Env} {h : IH} : mIx fa fb  env h = (fa env h).bind fun x h1 => (fb env h1).bind fun y h2 => .ofO (ixI (view h2 x) y) h2 := rfl
@[simp] theorem e_mNoE {e0 : Env} {h : IH} : mNoE  e0 h = .ok none h := rfl
@[simp] theorem e_mEnd (f : Mv) {env : Env} {h : IH} : mEnd f  env h = ((f env h).bind fun x h1 => match x with
  | .int i => .ok (some i) h1
  | _ => .bad) := rfl
@[simp] theorem e_mSl (fa : Mv) (fl fh : Mo) {env : Env} {h : IH} : mSl fa  fl fh  env h = (fa env h).bind fun x h1 => (fl env h1).bind fun l h2 => (fh env h2).bind fun u h3 => .ofO (slI (view h3 x) l u) h3 := rfl
@[simp] theorem e_mSeq (f : Mv) {env : Env} {h : IH} : mSeq f  env h = (f env h).bind fun x h1 => .ofO (seqI x) h1 := rfl
@[simp] theorem e_mRng1 (f : Mv) {env : Env} {h : IH} : mRng1 f  env h = ((f env h).bind fun x h1 => match x with
  | .int j => if -(2 ^ 62) ≤ j ∧ j < 2 ^ 62 then .ok (rngI 0 j.toNat) h1 else .bad
  | _ => .bad) := rfl
@[simp] theorem e_mRng2 (f g : Mv) {env : Env} {h : IH} : mRng2 f g  env h = ((f env h).bind fun x h1 => (g env h1).bind fun y h2 => match x, y with
  | .int i, .int j => if -(2 ^ 62) ≤ i ∧ i < 2 ^ 62 ∧ -(2 ^ 62) ≤ j ∧ j < 2 ^ 62 then .ok (rngI i (j - i).toNat) h2 else .bad
  | _, _ => .bad) := rfl
@[simp] theorem e_mEnum (f : Mv) {env : Env} {h : IH} : mEnum f  env h = (f env h).bind fun x h1 => .ofO ((skI x).map (enI 0)) h1 := rfl
@[simp] theorem e_mZip2 (f g : Mv) {env : Env} {h : IH} : mZip2 f g  env h = ((f env h).bind fun x h1 => (g env h1).bind fun y h2 => match skI x, skI y with
  | some xs, some ys => .ok (zipI2 xs ys) h2
  | _, _ => .bad) := rfl
@[simp] theorem e_mZip3 (f g k : Mv) {env : Env} {h : IH} : mZip3 f g k  env h = ((f env h).bind fun x h1 => (g env h1).bind fun y h2 => (k env h2).bind fun z h3 => match skI x, skI y, skI z with
  | some xs, some ys, some zs => .ok (zipI3 xs ys zs) h3
  | _, _, _ => .bad) := rfl
@[simp] theorem e_mLc (src : Mi) (g : Mg) (own : List Nat) (c : Mb) (e : Mv) {env : Env} {h : IH} : mLc src  g  own  c  e  env h = ((src env h).bind fun xs h1 =>
  if xs.length ≤ sizeLine then (lcLoop g c e (wipeI env own) xs h1).bind fun ys h2 => .ok (.lst ys) h2 else .bad) := rfl
@[simp] theorem e_mYes {e0 : Env} {h : IH} : mYes  e0 h = .ok true h := rfl
@[simp] theorem e_mNx {env : Env} {h : IH} : mNx  env h = .ok (.nx, env) h := rfl
@[simp] theorem e_mThen (f g : Ms) {env : Env} {h : IH} : mThen f g  env h = ((f env h).bind fun r h1 => match r with
  | (.nx, env1) => g env1 h1
  | r => .ok r h1) := rfl
@[simp] theorem e_mBk {env : Env} {h : IH} : mBk  env h = .ok (.bk, env) h := rfl
@[simp] theorem e_mCt {env : Env} {h : IH} : mCt  env h = .ok (.ct, env) h := rfl
@[simp] theorem e_mBad {e0 : Env} {h0 : IH} : mBad  e0 h0 = .bad := rfl
@[simp] theorem e_mEx (f : Mv) {env : Env} {h : IH} : mEx f  env h = (f env h).bind fun _ h1 => .ok (.nx, env) h1 := rfl
@[simp] theorem e_mRet (f : Mv) {env : Env} {h : IH} : mRet f  env h = (f env h).bind fun x h1 => .ok (.rt x, env) h1 := rfl
@[simp] theorem e_mRetN {env : Env} {h : IH} : mRetN  env h = .ok (.rt .non, env) h := rfl
@[simp] theorem e_mIfS (t : Mb) (f g : Ms) {env : Env} {h : IH} : mIfS t  f g  env h = (t env h).bind fun b h1 => if b = true then f env h1 else g env h1 := rfl
@[simp] theorem e_mSet (i : Nat) (f : Mv) {env : Env} {h : IH} : mSet i  f  env h = (f env h).bind fun x h1 => .ok (.nx, env.set i (some x)) h1 := rfl
@[simp] theorem e_mAsg (g : Mg) (f : Mv) {env : Env} {h : IH} : mAsg g  f  env h = ((f env h).bind fun x h1 => match g x env with
  | some env1 => .ok (.nx, env1) h1
  | none => .bad) := rfl
@[simp] theorem e_mPar (i j : Nat) (f : Ma) {env : Env} {h : IH} : mPar i j  f  env h = ((f env h).bind fun xs h1 => match xs with
  | [x, y] => .ok (.nx, (env.set i (some x)).set j (some y)) h1
  | _ => .bad) := rfl
@[simp] theorem e_mPar3 (i j l : Nat) (f : Ma) {env : Env} {h : IH} : mPar3 i j l  f  env h = ((f env h).bind fun xs h1 => match xs with
  | [x, y, z] => .ok (.nx, ((env.set i (some x)).set j (some y)).set l (some z)) h1
  | _ => .bad) := rfl
@[simp] theorem e_mFz (i : Nat) (f : Ms) {env : Env} {h : IH} : mFz i  f  env h = (match env[i]? with
  | some (some (.ref n)) => match h[n]? with
    | some (some o) => f (env.set i (some (viewO o))) (h.set n none)
    | _ => .bad
  | _ => .bad) := rfl
@[simp] theorem e_mItem (fo fi fv : Mv) {env : Env} {h : IH} : mItem fo fi fv  env h = ((fv env h).bind fun y h1 => (fo env h1).bind fun x h2 => (fi env h2).bind fun k h3 => match x, k with
  | .ref n, .int j => match h3[n]? with
    | some (some (.lst xs)) => match ixN xs.length j with
      | some m => .ok (.nx, env) (h3.set n (some (.lst (xs.set m y))))
      | none => .bad
    | _ => .bad
  | _, _ => .bad) := rfl
@[simp] theorem e_mFldS (n : Nat) (fo fv : Mv) {env : Env} {h : IH} : mFldS n  fo fv  env h = ((fv env h).bind fun y h1 => (fo env h1).bind fun x h2 => match x with
  | .ref k => match h2[k]? with
    | some (some (.ins c ns vs)) => if ns.length + 1 < 1000 then .ok (.nx, env) (h2.set k (some (.ins c (putI n y ns vs).1 (putI n y ns vs).2))) else .bad
    | _ => .bad
  | _ => .bad) := rfl
@[simp] theorem e_mFor (src : Mi) (g : Mg) (b : Ms) {env : Env} {h : IH} : mFor src  g  b  env h = (src env h).bind fun xs h1 => forLoop g b xs env h1 := rfl
@[simp] theorem e_mWh (n : Nat) (t : Mb) (b : Ms) {env : Env} {h : IH} : mWh n  t  b  env h = whLoop t b n env h := rfl
@[simp] theorem e_mCall (n : Nat) (m : Mf) (ds : List IV) (fa : Ma) {env : Env} {h : IH} : mCall n  m  ds  fa  env h = (fa env h).bind fun xs h1 => if (xs ++ ds).length = n then m (xs ++ ds) h1 else .bad := rfl
@[simp] theorem e_mCallP (n : Nat) (m : List IV → Option IV) (ds : List IV) (fa : Ma) {env : Env} {h : IH} : mCallP n  m  ds  fa  env h = (fa env h).bind fun xs h1 => if (xs ++ ds).length = n ∧ noRefs (xs ++ ds) = true then .ofO (m (xs ++ ds)) h1 else .bad := rfl
@[simp] theorem e_mMeth (c n : Nat) (m : List IV → Option IV) (ds : List IV) (fo : Mv) (fa : Ma) {env : Env} {h : IH} : mMeth c n  m  ds  fo  fa  env h = ((fo env h).bind fun x h1 => match x with
  | .ins c' _ _ => if c' = c then (fa env h1).bind fun xs h2 => if (x :: (xs ++ ds)).length = n ∧ noRefs (x :: (xs ++ ds)) = true then .ofO (m (x :: (xs ++ ds))) h2 else .bad else .bad
  | _ => .bad) := rfl
@[simp] theorem e_mMake (n : Nat) (m : List IV → Option IV) (ds : List IV) (fa : Ma) {env : Env} {h : IH} : mMake n  m  ds  fa  env h = (fa env h).bind fun xs h1 => if (xs ++ ds).length + 1 = n ∧ noRefs (xs ++ ds) = true then .ofO (m (xs ++ ds)) h1 else .bad := rfl
@[simp] theorem e_mBf (bf : Bf) (fa : Ma) {env : Env} {h : IH} : mBf bf  fa  env h = (fa env h).bind bf := rfl
@[simp] theorem e_mMaxDf (fa fd : Mv) {env : Env} {h : IH} : mMaxDf fa fd  env h = ((fa env h).bind fun x h1 => (fd env h1).bind fun d h2 => match (skI (view h2 x)).bind intsOf, d with
  | some ns, .int d => .ok (.int ((foldMax ns).getD d)) h2
  | _, _ => .bad) := rfl
@[simp] theorem e_mDix (fo fk : Mv) {env : Env} {h : IH} : mDix fo fk  env h = ((fo env h).bind fun x h1 => (fk env h1).bind fun k h2 => match view h2 x, kI k with
  | .dic ks vs, some kk => .ofO (dgetI kk ks vs) h2
  | _, _ => .bad) := rfl
@[simp] theorem e_mDgt (fo fk fz : Mv) {env : Env} {h : IH} : mDgt fo fk fz  env h = ((fo env h).bind fun x h1 => match view h1 x with
  | .dic _ _ => (fk env h1).bind fun k h2 => (fz env h2).bind fun z h3 => match view h3 x, kI k with
    | .dic ks vs, some kk => .ok ((dgetI kk ks vs).getD z) h3
    | _, _ => .bad
  | _ => .bad) := rfl
@[simp] theorem e_mDsd (fo fk fz : Mv) {env : Env} {h : IH} : mDsd fo fk fz  env h = ((fo env h).bind fun x h1 => match view h1 x with
  | .dic _ _ => (fk env h1).bind fun k h2 => (fz env h2).bind fun z h3 => match x, kI k with
    | .ref n, some kk => match h3[n]? with
      | some (some (.dic ks vs)) => if ks.length < sizeLine then match dgetI kk ks vs with
          | some y => .ok y h3
          | none => .ok z (h3.set n (some (.dic (dputI k kk z ks vs).1 (dputI k kk z ks vs).2)))
        else .bad
      | _ => .bad
    | _, _ => .bad
  | _ => .bad) := rfl
@[simp] theorem e_mDpt (fo fk fz : Mv) {env : Env} {h : IH} : mDpt fo fk fz  env h = ((fz env h).bind fun z h1 => (fo env h1).bind fun x h2 => (fk env h2).bind fun k h3 => match x, kI k with
  | .ref n, some kk => match h3[n]? with
    | some (some (.dic ks vs)) => if ks.length < sizeLine then .ok (.nx, env) (h3.set n (some (.dic (dputI k kk z ks vs).1 (dputI k kk z ks vs).2))) else .bad
    | _ => .bad
  | _, _ => .bad) := rfl
@[simp] theorem e_mDnew {e0 : Env} {h : IH} : mDnew  e0 h = .ok (.ref h.length) (h ++ [some (.dic [] [])]) := rfl
@[simp] theorem e_mDc (src : Mi) (g : Mg) (own : List Nat) (c : Mb) (fk fv : Mv) {env : Env} {h : IH} : mDc src  g  own  c  fk fv  env h = ((src env h).bind fun xs h1 =>
  (dcLoop g c fk fv (wipeI env own) xs [] [] h1).bind fun r h2 => .ok (.dic r.1 r.2) h2) := rfl
@[simp] theorem e_mEqNil (fa fb : Mv) {env : Env} {h : IH} : mEqNil fa fb  env h = (fa env h).bind fun x h1 => (fb env h1).bind fun y h2 => .ofO (eqNilI (view h2 x) (view h2 y)) h2 := rfl
@[simp] theorem e_mApp (fo fx : Mv) {env : Env} {h : IH} : mApp fo fx  env h = ((fo env h).bind fun x h1 => match lstAt h1 x with
  | some _ => (fx env h1).bind fun y h2 => match lstAt h2 x with
    | some (n, xs) => if xs.length < sizeLine then .ok .non (h2.set n (some (.lst (xs ++ [y])))) else .bad
    | none => .bad
  | none => .bad) := rfl
@[simp] theorem e_mExt (fo fx : Mv) {env : Env} {h : IH} : mExt fo fx  env h = ((fo env h).bind fun x h1 => match lstAt h1 x with
  | some _ => (fx env h1).bind fun y h2 => match lstAt h2 x, view h2 y with
    | some (n, xs), .lst zs => if xs.length + zs.length ≤ sizeLine then .ok .non (h2.set n (some (.lst (xs ++ zs)))) else .bad
    | _, _ => .bad
  | none => .bad) := rfl
@[simp] theorem e_mTupX (g : Ma) {env : Env} {h : IH} : mTupX g  env h = (g env h).bind fun xs h1 => if xs.length ≤ sizeLine then .ok (.tpx xs) h1 else .bad := rfl
@[simp] theorem e_mCatX (fa fb : Mv) {env : Env} {h : IH} : mCatX fa fb  env h = ((fa env h).bind fun x h1 => (fb env h1).bind fun y h2 => match tupI (view h2 x), tupI (view h2 y) with
  | some xs, some ys => if xs ≠ [] ∧ ys ≠ [] ∧ xs.length + ys.length ≤ sizeLine then .ok (.tpx (xs ++ ys)) h2 else .bad
  | _, _ => .bad) := rfl
@[simp] theorem e_mIsi (kt : Tg → Option Bool) (f : Mv) {env : Env} {h : IH} : mIsi kt  f  env h = (f env h).bind fun x h1 => .ofO (((tgI (view h1 x)).bind kt).map .bl) h1 := rfl
@[simp] theorem e_mNix (fo fk : Mv) {env : Env} {h : IH} : mNix fo fk  env h = ((fo env h).bind fun x h1 => (fk env h1).bind fun k h2 => match view h2 x, nkey k with
  | .dcn ks vs, some kk => .ofO (dgetN kk ks vs) h2
  | _, _ => .bad) := rfl
@[simp] theorem e_mNgt (fo fk fz : Mv) {env : Env} {h : IH} : mNgt fo fk fz  env h = ((fo env h).bind fun x h1 => match view h1 x with
  | .dcn _ _ => (fk env h1).bind fun k h2 => (fz env h2).bind fun z h3 => match view h3 x, nkey k with
    | .dcn ks vs, some kk => .ok ((dgetN kk ks vs).getD z) h3
    | _, _ => .bad
  | _ => .bad) := rfl
@[simp] theorem e_mNpt (fo fk fz : Mv) {env : Env} {h : IH} : mNpt fo fk fz  env h = ((fz env h).bind fun z h1 => (fo env h1).bind fun x h2 => (fk env h2).bind fun k h3 => match x, nkey k with
  | .ref n, some kk => match h3[n]? with
    | some (some (.dcn ks vs)) => if ks.length < sizeLine then .ok (.nx, env) (h3.set n (some (.dcn (dputN k kk z ks vs).1 (dputN k kk z ks vs).2))) else .bad
    | _ => .bad
  | _, _ => .bad) := rfl
@[simp] theorem e_mNnew {e0 : Env} {h : IH} : mNnew  e0 h = .ok (.ref h.length) (h ++ [some (.dcn [] [])]) := rfl
@[simp] theorem e_mNks (f : Mv) {env : Env} {h : IH} : mNks f  env h = ((f env h).bind fun x h1 => match x with
  | .dcn ks _ => .ok ks h1
  | _ => .bad) := rfl
@[simp] theorem e_mLc2 (src : Mi) (g : Mg) (own : List Nat) (c : Mb) (src1 : Mi) (g1 : Mg) (vs1 : List Nat) (c1 : Mb) (e : Mv) {env : Env} {h : IH} : mLc2 src  g  own  c  src1  g1  vs1  c1  e  env h = ((src env h).bind fun xs h1 =>
  (lp1 g c (inC src1 g1 c1 (fLc e) vs1) (wipeI env own) xs [] h1).bind fun ys h2 => .ok (.lst ys) h2) := rfl
@[simp] theorem e_mDk2 (src : Mi) (g : Mg) (own : List Nat) (c : Mb) (src1 : Mi) (g1 : Mg) (vs1 : List Nat) (c1 : Mb) (fk fv : Mv) {env : Env} {h : IH} : mDk2 src  g  own  c  src1  g1  vs1  c1  fk fv  env h = ((src env h).bind fun xs h1 =>
  (lp1 g c (inC src1 g1 c1 (fDk fk fv) vs1) (wipeI env own) xs ([], []) h1).bind fun r h2 => .ok (.dcn r.1 r.2) h2) := rfl
@[simp] theorem e_mLen2 (f : Mv) {env : Env} {h : IH} : mLen2 f  env h = ((f env h).bind fun x h1 => match setI (view h1 x) with
  | some n => .ok (.int (n : Nat)) h1
  | none => .bad) := rfl
@[simp] theorem e_mLz (fa : Ma) {env : Env} {h : IH} : mLz fa  env h = ((fa env h).bind fun xs h1 => match xs with
  | [x, y] => match skI (view h1 x), skI (view h1 y) with
    | some as, some bs => if min as.length bs.length ≤ sizeLine then .ok (.lst (zipT as bs)) h1 else .bad
    | _, _ => .bad
  | _ => .bad) := rfl
@[simp] theorem e_mRepN (fa fb : Mv) {env : Env} {h : IH} : mRepN fa fb  env h = ((fa env h).bind fun x h1 => (fb env h1).bind fun y h2 => match view h2 x, y with
  | .lst xs, .int k => if -(2 ^ 63) ≤ k ∧ k < 2 ^ 63 ∧ xs.length * k.toNat ≤ sizeLine then .ok (.ref h2.length) (h2 ++ [some (.lst (repI k.toNat xs))]) else .bad
  | _, _ => .bad) := rfl
@[simp] theorem e_mTupRg (f : Mv) {env : Env} {h : IH} : mTupRg f  env h = ((f env h).bind fun x h1 => match x with
  | .int n => if -(2 ^ 62) ≤ n ∧ n < 2 ^ 24 then .ok (.tup (rgI 0 n)) h1 else .bad
  | _ => .bad) := rfl
@[simp] theorem e_mDk2n (src : Mi) (g : Mg) (own : List Nat) (c : Mb) (src1 : Mi) (g1 : Mg) (vs1 : List Nat) (c1 : Mb) (fk fv : Mv) {env : Env} {h : IH} : mDk2n src  g  own  c  src1  g1  vs1  c1  fk fv  env h = ((src env h).bind fun xs h1 =>
  (lp1 g c (inC src1 g1 c1 (fDk fk fv) vs1) (wipeI env own) xs ([], []) h1).bind fun r h2 => .ok (.ref h2.length) (h2 ++ [some (.dcn r.1 r.2)])) := rfl
@[simp] theorem e_mOwn (c : Nat) (m : List IV → Option IV) (g : Bool → Bool) (fa fb : Mv) {env : Env} {h : IH} : mOwn c  m  g  fa fb  env h = ((fa env h).bind fun x h1 => (fb env h1).bind fun y h2 => match x, y with
  | .ins c1 n1 v1, .ins c2 n2 v2 => if c1 = c ∧ c2 = c ∧ noRefs [.ins c1 n1 v1, .ins c2 n2 v2] = true then .ofO (((m [.ins c1 n1 v1, .ins c2 n2 v2]).bind blI).map g) h2 else .bad
  | _, _ => .bad) := rfl
@[simp] theorem e_mRv (f : Mv) {env : Env} {h : IH} : mRv f  env h = ((f env h).bind fun x h1 => match x with
  | .rng i j => if -(2 ^ 62) ≤ i ∧ i < 2 ^ 62 ∧ -(2 ^ 62) ≤ j ∧ j < 2 ^ 62 then .ok (rngI i (j - i).toNat) h1 else .bad
  | _ => .bad) := rfl
section
variable {i : Nat} {x y : IV} {xs ys ns : List IV} {env : Env} {h : IH} {g : Mg} {gs : Mgs} {c : Mb} {e : Mv} {b : Ms}
@[simp] theorem e_gN : gN i x env = some (env.set i (some x)) := rfl
@[simp] theorem e_gNil : gNil' [] env = some env := rfl
@[simp] theorem e_gCons : gCons' g gs (x :: xs) env = (g x env).bind (gs xs) := rfl
@[simp] theorem e_gSeqT : gSeq gs (.tup xs) env = gs xs env := rfl
@[simp] theorem e_gSeqL : gSeq gs (.lst xs) env = gs xs env := rfl
@[simp] theorem e_gSeqX : gSeq gs (.tpx xs) env = gs xs env := rfl
@[simp] theorem e_lcNil : lcLoop g c e env [] h = .ok [] h := rfl
@[simp] theorem e_lcCons : lcLoop g c e env (x :: xs) h = (match g x env with
    | none => .bad
    | some env1 => (c env1 h).bind fun b h1 => if b = true then (e env1 h1).bind fun y h2 => (lcLoop g c e env xs h2).bind fun ys h3 => .ok (y :: ys) h3 else lcLoop g c e env xs h1) := rfl
@[simp] theorem e_forNil : forLoop g b [] env h = .ok (.nx, env) h := rfl
@[simp] theorem e_wipeN : wipeI env [] = env := rfl
@[simp] theorem e_wipeC {v : Nat} {vs : List Nat} : wipeI env (v :: vs) = (wipeI env vs).set v none := rfl
@[simp] theorem e_nrInt {j : Int} : noRef (.int j) = true := rfl
@[simp] theorem e_nrStr {j : Str} : noRef (.str j) = true := rfl
@[simp] theorem e_nrBl {j : Bool} : noRef (.bl j) = true := rfl
@[simp] theorem e_nrNon : noRef .non = true := rfl
@[simp] theorem e_nrTup : noRef (.tup xs) = noRefs xs := rfl
@[simp] theorem e_nrLst : noRef (.lst xs) = noRefs xs := rfl
@[simp] theorem e_nrTpx : noRef (.tpx xs) = noRefs xs := rfl
@[simp] theorem e_nrRdl : noRef (.rdl xs) = noRefs xs := rfl
@[simp] theorem e_nrIns {k : Nat} {ms : List Nat} : noRef (.ins k ms xs) = noRefs xs := rfl
@[simp] theorem e_nrDic : noRef (.dic xs ys) = (noRefs xs && noRefs ys) := rfl
@[simp] theorem e_nrDcn : noRef (.dcn xs ys) = (noRefs xs && noRefs ys) := rfl
@[simp] theorem e_nrNil : noRefs [] = true := rfl
@[simp] theorem e_nrCons : noRefs (x :: xs) = (noRef x && noRefs xs) := rfl
@[simp] theorem noRefs_app : noRefs (xs ++ ys) = (noRefs xs && noRefs ys) := by
  induction xs with
  | nil => simp
  | cons a l ih => simp [ih, Bool.and_assoc]
@[simp] theorem seqI_lst : seqI (.lst xs) = some xs := rfl
@[simp] theorem seqI_tup : seqI (.tup xs) = some xs := rfl
@[simp] theorem seqI_tpx : seqI (.tpx xs) = some xs := rfl
@[simp] theorem seqI_rdl : seqI (.rdl xs) = some xs := rfl
@[simp] theorem skI_lst : skI (.lst xs) = some xs := rfl
@[simp] theorem skI_tup : skI (.tup xs) = some xs := rfl
@[simp] theorem skI_tpx : skI (.tpx xs) = some xs := rfl
@[simp] theorem skI_rdl : skI (.rdl xs) = some xs := rfl
@[simp] theorem lstI_lst : lstI (.lst xs) = some xs := rfl
@[simp] theorem lstI_rdl : lstI (.rdl xs) = some xs := rfl
@[simp] theorem lstI_tup : lstI (.tup xs) = none := rfl
@[simp] theorem lstI_tpx : lstI (.tpx xs) = none := rfl
@[simp] theorem lenI_lst : lenI (.lst xs) = some xs.length := rfl
@[simp] theorem lenI_tup : lenI (.tup xs) = some xs.length := rfl
@[simp] theorem intsOf_nil : intsOf [] = some [] := rfl
@[simp] theorem intsOf_cons {j : Int} : intsOf (.int j :: xs) = (intsOf xs).map (j :: ·) := rfl
@[simp] theorem blsOf_nil : blsOf [] = some [] := rfl
@[simp] theorem blsOf_cons {j : Bool} : blsOf (.bl j :: xs) = (blsOf xs).map (j :: ·) := rfl
@[simp] theorem strsOf_nil : strsOf [] = some [] := rfl
@[simp] theorem strsOf_cons {j : Str} : strsOf (.str j :: xs) = (strsOf xs).map (j :: ·) := rfl
@[simp] theorem tru_bl {k : Bool} : truI (.bl k) = some k := rfl
@[simp] theorem asB_bl {k : Bool} : asB (.bl k) h = .ok k h := rfl
@[simp] theorem look_hit {n : Nat} {ns : List Nat} {vs : List IV} : look n (n :: ns) (x :: vs) = some x := by simp [look]
@[simp] theorem look_go {n m : Nat} {ns : List Nat} {vs : List IV} (hm : m ≠ n) : look n (m :: ns) (x :: vs) = look n ns vs := by simp [look, hm]
@[simp] theorem bTupleX_lst : bTupleX [.lst xs] h = .ok (.tpx xs) h := rfl
@[simp] theorem bTupleX_tpx : bTupleX [.tpx xs] h = .ok (.tpx xs) h := rfl
@[simp] theorem bTupleX_tup : bTupleX [.tup xs] h = .ok (.tup xs) h := rfl
@[simp] theorem tgI_ins {k : Nat} {ms : List Nat} : tgI (.ins k ms xs) = some (.cl k) := rfl
@[simp] theorem tgI_lst : tgI (.lst xs) = some (.ty "list") := rfl
@[simp] theorem tgI_tup : tgI (.tup xs) = some (.ty "tuple") := rfl
@[simp] theorem tgI_int {j : Int} : tgI (.int j) = some (.ty "int") := rfl
@[simp] theorem tgI_str {j : Str} : tgI (.str j) = some (.ty "str") := rfl
@[simp] theorem tgI_bl {j : Bool} : tgI (.bl j) = some (.ty "bool") := rfl
@[simp] theorem tgI_non : tgI .non = some (.ty "NoneType") := rfl
@[simp] theorem sz_eq : sizeLine = 16777216 := by decide
@[simp] theorem bAll_lst : bAll [.lst xs] h = (match blsOf xs with
    | some bs => .ok (.bl (bs.all id)) h
    | none => .bad) := rfl
@[simp] theorem bAny_lst : bAny [.lst xs] h = (match blsOf xs with
    | some bs => .ok (.bl (bs.any id)) h
    | none => .bad) := rfl
@[simp] theorem bSum_lst : bSum [.lst xs] h = (match intsOf xs with
    | some ns => .ok (.int ns.sum) h
    | none => .bad) := rfl
@[simp] theorem bMax_lst : bMax [.lst xs] h = (match intsOf xs with
    | some ns => (match foldMax ns with
      | some m => .ok (.int m) h
      | none => .bad)
    | none => .bad) := rfl
@[simp] theorem bMax_tup : bMax [.tup xs] h = (match intsOf xs with
    | some ns => (match foldMax ns with
      | some m => .ok (.int m) h
      | none => .bad)
    | none => .bad) := rfl
@[simp] theorem bMax_two {j k : Int} : bMax [.int j, .int k] h = .ok (.int (if k > j then k else j)) h := rfl
@[simp] theorem bMin_two {j k : Int} : bMin [.int j, .int k] h = .ok (.int (if k < j then k else j)) h := rfl
@[simp] theorem foldMax_cons {j : Int} {js : List Int} : foldMax (j :: js) = some (js.foldl max j) := rfl
@[simp] theorem bRng_e {j : Int} : bRng [.int j] h = .ok (.rng 0 j) h := rfl
@[simp] theorem bInt_int {j : Int} : bInt [.int j] h = .ok (.int j) h := rfl
@[simp] theorem bList_lst : bList [.lst xs] h = .ok (.lst xs) h := rfl
@[simp] theorem bList_tup : bList [.tup xs] h = .ok (.lst xs) h := rfl
@[simp] theorem bList_tpx : bList [.tpx xs] h = .ok (.lst xs) h := rfl
@[simp] theorem e_forCons : forLoop g b (x :: xs) env h = (match g x env with
    | none => .bad
    | some env1 => (b env1 h).bind fun r h1 => match r with
      | (.nx, env2) => forLoop g b xs env2 h1
      | (.ct, env2) => forLoop g b xs env2 h1
      | (.bk, env2) => .ok (.nx, env2) h1
      | (.rt v, env2) => .ok (.rt v, env2) h1) := rfl
@[simp] theorem bLen_lst : bLen [.lst xs] h = .ok (.int xs.length) h := rfl
@[simp] theorem bLen_tup : bLen [.tup xs] h = .ok (.int xs.length) h := rfl
@[simp] theorem bLen_tpx : bLen [.tpx xs] h = .ok (.int xs.length) h := rfl
end
/-! ### trees compared, for what is asked of many at once -/
mutual
def beqI : IV → IV → Bool
  | .non, .non => true
  | .bl a, .bl b => a == b
  | .int a, .int b => decide (a = b)
  | .str a, .str b => decide (a = b)
  | .tup a, .tup b => beqIs a b
  | .lst a, .lst b => beqIs a b
  | .rdl a, .rdl b => beqIs a b
  | .tpx a, .tpx b => beqIs a b
  | .dic a c, .dic b d => beqIs a b && beqIs c d
  | .dcn a c, .dcn b d => beqIs a b && beqIs c d
  | .ins k ns a, .ins m ms b => decide (k = m) && (decide (ns = ms) && beqIs a b)
  | .rng a c, .rng b d => decide (a = b) && decide (c = d)
  | .ref a, .ref b => decide (a = b)
  | _, _ => false
def beqIs : List IV → List IV → Bool
  | [], [] => true
  | x :: xs, y :: ys => beqI x y && beqIs xs ys
  | _, _ => false
end
mutual
theorem beqI_eq : ∀ {x y : IV}, beqI x y = true → x = y
  | .non, y, h => by cases y <;> simp [beqI] at h ⊢
  | .bl a, y, h => by cases y <;> simp [beqI] at h ⊢; exact h
  | .int a, y, h => by cases y <;> simp [beqI] at h ⊢; exact h
  | .str a, y, h => by cases y <;> simp [beqI] at h ⊢; exact h
  | .tup a, y, h => by cases y <;> simp [beqI] at h ⊢; exact beqIs_eq h
  | .lst a, y, h => by cases y <;> simp [beqI] at h ⊢; exact beqIs_eq h
  | .rdl a, y, h => by cases y <;> simp [beqI] at h ⊢; exact beqIs_eq h
  | .tpx a, y, h => by cases y <;> simp [beqI] at h ⊢; exact beqIs_eq h
  | .dic a c, y, h => by cases y <;> simp [beqI] at h ⊢; exact ⟨beqIs_eq h.1, beqIs_eq h.2⟩
  | .dcn a c, y, h => by cases y <;> simp [beqI] at h ⊢; exact ⟨beqIs_eq h.1, beqIs_eq h.2⟩
  | .ins k ns a, y, h => by cases y <;> simp [beqI] at h ⊢; exact ⟨h.1, h.2.1, beqIs_eq h.2.2⟩
  | .rng a c, y, h => by cases y <;> simp [beqI] at h ⊢; exact h
  | .ref a, y, h => by cases y <;> simp [beqI] at h ⊢; exact h
theorem beqIs_eq : ∀ {xs ys : List IV}, beqIs xs ys = true → xs = ys
  | [], [], _ => rfl
  | [], _ :: _, h => by simp [beqIs] at h
  | _ :: _, [], h => by simp [beqIs] at h
  | x :: xs, y :: ys, h => by
    simp only [beqIs, Bool.and_eq_true] at h
    rw [beqI_eq h.1, beqIs_eq h.2]
end
/-- the answer is y -/
def isV (o : Option IV) (y : IV) : Bool := match o with
  | some x => beqI x y
  | none => false
theorem isV_eq {o : Option IV} {y : IV} (h : isV o y = true) : o = some y := by
  cases o with
  | none => cases h
  | some x => rw [beqI_eq (show beqI x y = true from h)]
def allB (n : Nat) (f : Nat → Bool) : Bool := match n with
  | 0 => true
  | n + 1 => f n && allB n f
theorem allB_at : ∀ {n : Nat} {f : Nat → Bool}, allB n f = true → ∀ {k : Nat}, k < n → f k = true
  | 0, _, _, k, hk => by omega
  | n + 1, f, h, k, hk => by
    simp only [allB, Bool.and_eq_true] at h
    by_cases e : k = n
    · rw [e]; exact h.1
    · exact allB_at h.2 (by omega)

end Iv

namespace L22
open PySem Iv
def kt_Deed : Tg → Option Bool := ktT 4 [] [3]
def kt_Kind : Tg → Option Bool := ktT 4 [] [0]
def kt_Kit : Tg → Option Bool := ktT 4 [] [1]
def kt_Word : Tg → Option Bool := ktT 4 [] [2]
def kt_bool : Tg → Option Bool := ktT 4 ["bool"] []
def kt_int : Tg → Option Bool := ktT 4 ["int", "bool"] []
def kt_list_tuple : Tg → Option Bool := ktT 4 ["list", "tuple"] []
def kt_str : Tg → Option Bool := ktT 4 ["str"] []
def m_is_integer : Ms := mRet (mAndV (mIsi kt_int (mVar 0)) (mNotV (mIsi kt_bool (mVar 0))))
def mf_is_integer : Mf := bodyM 1 m_is_integer
def p_is_integer : List IV → Option IV := pureM mf_is_integer
def m_is_between : Ms := mRet (mAndV (mCallP 1 p_is_integer [] (mCons (mVar 0) (mNil))) (mB (mChn .le .le (mVar 1) (mVar 0) (mVar 2))))
def mf_is_between : Mf := bodyM 3 m_is_between
def p_is_between : List IV → Option IV := pureM mf_is_between
def m_is_name : Ms := mThen (mIfS (mOr (mNot (mTru (mIsi kt_str (mVar 0)))) (mOr (mNot (mChn .le .le (mC (.int 1)) (mBf bLen (mCons (mVar 0) (mNil))) (mC c_MOST_SIGNS))) (mCmpB .notin (mIx (mVar 0) (mC (.int 0))) (mC c_LETTERS)))) (mRet (mC (.bl false))) (mNx)) (mRet (mBf bAll (mCons (mLc (mSeq (mVar 0)) (gN 1) [1] (mYes) (mB (mCmpB .isin (mVar 1) (mC c_SIGNS)))) (mNil))))
def mf_is_name : Mf := bodyM 2 m_is_name
def p_is_name : List IV → Option IV := pureM mf_is_name
def m_is_listed : Ms := mRet (mIsi kt_list_tuple (mVar 0))
def mf_is_listed : Mf := bodyM 1 m_is_listed
def p_is_listed : List IV → Option IV := pureM mf_is_listed
def m_ascends : Ms := mRet (mBf bAll (mCons (mLc (mZip2 (mVar 0) (mSl (mVar 0) (mEnd (mC (.int 1))) (mNoE))) (gSeq fun xs env => if xs.length = 2 then (gCons' (gN 1) (gCons' (gN 2) (gNil'))) xs env else none) [1, 2] (mYes) (mB (mCmpB .lt (mVar 1) (mVar 2)))) (mNil)))
def mf_ascends : Mf := bodyM 3 m_ascends
def p_ascends : List IV → Option IV := pureM mf_ascends
def m_are_unlike : Ms := mRet (mCallP 1 p_ascends [] (mCons (mBf bSort (mCons (mVar 0) (mNil))) (mNil)))
def mf_are_unlike : Mf := bodyM 1 m_are_unlike
def p_are_unlike : List IV → Option IV := pureM mf_are_unlike
def m_are_names : Ms := mThen (mIfS (mOr (mNot (mTru (mCallP 1 p_is_listed [] (mCons (mVar 0) (mNil))))) (mNot (mChn .le .le (mVar 1) (mBf bLen (mCons (mVar 0) (mNil))) (mVar 2)))) (mRet (mC (.bl false))) (mNx)) (mRet (mAndV (mBf bAll (mCons (mLc (mSeq (mVar 0)) (gN 3) [3] (mYes) (mCallP 1 p_is_name [] (mCons (mVar 3) (mNil)))) (mNil))) (mCallP 1 p_are_unlike [] (mCons (mVar 0) (mNil)))))
def mf_are_names : Mf := bodyM 4 m_are_names
def p_are_names : List IV → Option IV := pureM mf_are_names
def m_blocks_of : Ms := mRet (mBin .add (mMaxDf (mVar 0) (mNeg (mC (.int 1)))) (mC (.int 1)))
def mf_blocks_of : Mf := bodyM 1 m_blocks_of
def p_blocks_of : List IV → Option IV := pureM mf_blocks_of
def m_told_by : Ms := mThen (mSet 1 (mDnew)) (mRet (mBf bTupleX (mCons (mLc (mSeq (mVar 0)) (gN 2) [2] (mYes) (mDsd (mVar 1) (mVar 2) (mBf bLen (mCons (mVar 1) (mNil))))) (mNil))))
def mf_told_by : Mf := bodyM 3 m_told_by
def p_told_by : List IV → Option IV := pureM mf_told_by
def m_is_over : Ms := mThen (mSet 2 (mDnew)) (mRet (mBf bAll (mCons (mLc (mZip2 (mVar 0) (mVar 1)) (gSeq fun xs env => if xs.length = 2 then (gCons' (gN 3) (gCons' (gN 4) (gNil'))) xs env else none) [3, 4] (mYes) (mB (mCmpB .eq (mDsd (mVar 2) (mVar 4) (mVar 3)) (mVar 3)))) (mNil))))
def mf_is_over : Mf := bodyM 5 m_is_over
def p_is_over : List IV → Option IV := pureM mf_is_over
def m_partings_of : Ms := mThen (mSet 1 (mLst (mCons (mTup (mNil)) (mNil)))) (mThen (mFor (mRng1 (mVar 0)) (gN 2) (mSet 1 (mLc2 (mSeq (mVar 1)) (gN 3) [3, 4] (mYes) (mRng1 (mBin .add (mCallP 1 p_blocks_of [] (mCons (mVar 3) (mNil))) (mC (.int 1)))) (gN 4) [4] (mYes) (mTup (mStar (mVar 3) (mCons (mVar 4) (mNil))))))) (mRet (mBf bTupleX (mCons (mVar 1) (mNil)))))
def mf_partings_of : Mf := bodyM 5 m_partings_of
def p_partings_of : List IV → Option IV := pureM mf_partings_of
def m_finest : Ms := mRet (mTupRg (mVar 0))
def mf_finest : Mf := bodyM 1 m_finest
def p_finest : List IV → Option IV := pureM mf_finest
def m_passing_in : Ms := mRet (mBf bLen (mCons (mLc (mSeq (mVar 0)) (gSeq fun xs env => if xs.length = 2 then (gCons' (gN 2) (gCons' (gN 3) (gNil'))) xs env else none) [2, 3] (mCmpB .ne (mIx (mVar 1) (mVar 2)) (mIx (mVar 1) (mVar 3))) (mC (.int 1))) (mNil)))
def mf_passing_in : Mf := bodyM 4 m_passing_in
def p_passing_in : List IV → Option IV := pureM mf_passing_in
def m_is_rope : Ms := mRet (mAndV (mCallP 1 p_is_listed [] (mCons (mVar 0) (mNil))) (mAndV (mB (mCmpB .eq (mBf bLen (mCons (mVar 0) (mNil))) (mC (.int 2)))) (mAndV (mCallP 3 p_are_names [] (mCons (mVar 0) (mCons (mC (.int 2)) (mCons (mC (.int 2)) (mNil))))) (mBf bAll (mCons (mLc (mSeq (mVar 0)) (gN 2) [2] (mYes) (mB (mCmpB .isin (mVar 2) (mVar 1)))) (mNil))))))
def mf_is_rope : Mf := bodyM 3 m_is_rope
def p_is_rope : List IV → Option IV := pureM mf_is_rope
def m_are_ropes : Ms := mRet (mAndV (mCallP 1 p_is_listed [] (mCons (mVar 0) (mNil))) (mAndV (mB (mCmpB .le (mBf bLen (mCons (mVar 0) (mNil))) (mC c_MOST_ROPES))) (mBf bAll (mCons (mLc (mSeq (mVar 0)) (gN 2) [2] (mYes) (mCallP 2 p_is_rope [] (mCons (mVar 2) (mCons (mVar 1) (mNil))))) (mNil)))))
def mf_are_ropes : Mf := bodyM 3 m_are_ropes
def p_are_ropes : List IV → Option IV := pureM mf_are_ropes
def m_are_joints : Ms := mRet (mAndV (mCallP 3 p_are_names [] (mCons (mVar 0) (mCons (mVar 2) (mCons (mVar 3) (mNil))))) (mBf bAll (mCons (mLc (mSeq (mVar 0)) (gN 4) [4] (mYes) (mB (mCmpB .isin (mVar 4) (mVar 1)))) (mNil))))
def mf_are_joints : Mf := bodyM 5 m_are_joints
def p_are_joints : List IV → Option IV := pureM mf_are_joints
def m_Kind___init__ : Ms := mThen (mIfS (mNot (mTru (mCallP 1 p_is_name [] (mCons (mVar 1) (mNil))))) (mBad) (mNx)) (mThen (mIfS (mNot (mTru (mCallP 3 p_are_names [] (mCons (mVar 2) (mCons (mC (.int 1)) (mCons (mC c_MOST_PIECES) (mNil))))))) (mBad) (mNx)) (mThen (mIfS (mNot (mTru (mCallP 4 p_are_joints [] (mCons (mVar 3) (mCons (mVar 2) (mCons (mC (.int 1)) (mCons (mC c_MOST_JOINTS) (mNil)))))))) (mBad) (mNx)) (mThen (mIfS (mNot (mTru (mCallP 4 p_are_joints [] (mCons (mVar 4) (mCons (mVar 2) (mCons (mBf bLen (mCons (mVar 3) (mNil))) (mCons (mBf bLen (mCons (mVar 3) (mNil))) (mNil)))))))) (mBad) (mNx)) (mThen (mIfS (mNot (mTru (mCallP 2 p_are_ropes [] (mCons (mVar 5) (mCons (mVar 2) (mNil)))))) (mBad) (mNx)) (mThen (mFldS 0 (mVar 0) (mVar 1)) (mThen (mFldS 1 (mVar 0) (mBf bTupleX (mCons (mVar 2) (mNil)))) (mThen (mFldS 2 (mVar 0) (mBf bTupleX (mCons (mVar 3) (mNil)))) (mThen (mFldS 3 (mVar 0) (mBf bTupleX (mCons (mVar 4) (mNil)))) (mFldS 4 (mVar 0) (mBf bTupleX (mCons (mLc (mSeq (mVar 5)) (gN 6) [6] (mYes) (mBf bTupleX (mCons (mVar 6) (mNil)))) (mNil))))))))))))
def mf_Kind___init__ : Mf := bodyM 7 m_Kind___init__
def p_Kind___init__ : List IV → Option IV := pureM mf_Kind___init__
def k_Kind___init__ : List IV → Option IV := pureMk 0 mf_Kind___init__
def m_numbers_in : Ms := mRet (mDc (mEnum (mFld 1 (mVar 0))) (gSeq fun xs env => if xs.length = 2 then (gCons' (gN 1) (gCons' (gN 2) (gNil'))) xs env else none) [1, 2] (mYes) (mVar 2) (mVar 1))
def mf_numbers_in : Mf := bodyM 3 m_numbers_in
def p_numbers_in : List IV → Option IV := pureM mf_numbers_in
def m_pairs_in : Ms := mThen (mSet 1 (mCallP 1 p_numbers_in [] (mCons (mVar 0) (mNil)))) (mRet (mLc (mSeq (mFld 4 (mVar 0))) (gSeq fun xs env => if xs.length = 2 then (gCons' (gN 2) (gCons' (gN 3) (gNil'))) xs env else none) [2, 3] (mYes) (mTup (mCons (mDix (mVar 1) (mVar 2)) (mCons (mDix (mVar 1) (mVar 3)) (mNil))))))
def mf_pairs_in : Mf := bodyM 4 m_pairs_in
def p_pairs_in : List IV → Option IV := pureM mf_pairs_in
def m_are_kinds : Ms := mThen (mIfS (mOr (mNot (mTru (mCallP 1 p_is_listed [] (mCons (mVar 0) (mNil))))) (mOr (mNot (mChn .le .le (mC (.int 1)) (mBf bLen (mCons (mVar 0) (mNil))) (mC c_MOST_KINDS))) (mNot (mTru (mBf bAll (mCons (mLc (mSeq (mVar 0)) (gN 2) [2] (mYes) (mIsi kt_Kind (mVar 2))) (mNil))))))) (mRet (mC (.bl false))) (mNx)) (mRet (mAndV (mBf bAll (mCons (mLc (mSeq (mVar 0)) (gN 2) [2] (mYes) (mB (mCmpB .eq (mBf bLen (mCons (mFld 2 (mVar 2)) (mNil))) (mVar 1)))) (mNil))) (mCallP 1 p_are_unlike [] (mCons (mLc (mSeq (mVar 0)) (gN 2) [2] (mYes) (mFld 0 (mVar 2))) (mNil)))))
def mf_are_kinds : Mf := bodyM 3 m_are_kinds
def p_are_kinds : List IV → Option IV := pureM mf_are_kinds
def m_Kit___init__ : Ms := mThen (mIfS (mNot (mTru (mCallP 3 p_is_between [] (mCons (mVar 1) (mCons (mC (.int 1)) (mCons (mBin .sub (mBf bLen (mCons (mC c_GRADES) (mNil))) (mC (.int 1))) (mNil))))))) (mBad) (mNx)) (mThen (mIfS (mNot (mTru (mCallP 3 p_is_between [] (mCons (mVar 2) (mCons (mC (.int 1)) (mCons (mC c_MOST_JOINTS) (mNil))))))) (mBad) (mNx)) (mThen (mIfS (mNot (mTru (mCallP 2 p_are_kinds [] (mCons (mVar 3) (mCons (mVar 2) (mNil)))))) (mBad) (mNx)) (mThen (mFldS 5 (mVar 0) (mVar 1)) (mThen (mFldS 6 (mVar 0) (mVar 2)) (mThen (mFldS 7 (mVar 0) (mBf bTupleX (mCons (mVar 3) (mNil)))) (mThen (mFldS 8 (mVar 0) (mIx (mC c_GRADES) (mVar 1))) (mFldS 9 (mVar 0) (mBf bTupleX (mCons (mLc (mSeq (mVar 3)) (gN 4) [4] (mYes) (mFld 0 (mVar 4))) (mNil))))))))))
def mf_Kit___init__ : Mf := bodyM 5 m_Kit___init__
def p_Kit___init__ : List IV → Option IV := pureM mf_Kit___init__
def k_Kit___init__ : List IV → Option IV := pureMk 1 mf_Kit___init__
def m_Kit_kind : Ms := mThen (mSet 2 (mLc (mSeq (mFld 7 (mVar 0))) (gN 3) [3] (mAnd (mTru (mIsi kt_str (mVar 1))) (mCmpB .eq (mFld 0 (mVar 3)) (mVar 1))) (mVar 3))) (mThen (mIfS (mEqNil (mVar 2) (mLst (mNil))) (mBad) (mNx)) (mRet (mIx (mVar 2) (mC (.int 0)))))
def mf_Kit_kind : Mf := bodyM 4 m_Kit_kind
def p_Kit_kind : List IV → Option IV := pureM mf_Kit_kind
def m_need_kit : Ms := mThen (mIfS (mNot (mTru (mIsi kt_Kit (mVar 0)))) (mBad) (mNx)) (mRet (mVar 0))
def mf_need_kit : Mf := bodyM 2 m_need_kit
def p_need_kit : List IV → Option IV := pureM mf_need_kit
def m_need_grade : Ms := mThen (mIfS (mOr (mNot (mTru (mCallP 3 p_is_between [] (mCons (mVar 0) (mCons (mC (.int 1)) (mCons (mIx (mC c_GRADES) (mNeg (mC (.int 1)))) (mNil))))))) (mCmpB .notin (mVar 0) (mC c_GRADES))) (mBad) (mNx)) (mRet (mVar 0))
def mf_need_grade : Mf := bodyM 1 m_need_grade
def p_need_grade : List IV → Option IV := pureM mf_need_grade
def m_joint_partings : Ms := mRet (mIx (mC c_JOINT_PARTINGS) (mBin .sub (mVar 0) (mC (.int 1))))
def mf_joint_partings : Mf := bodyM 1 m_joint_partings
def p_joint_partings : List IV → Option IV := pureM mf_joint_partings
def m_cuts_of : Ms := mRet (mIx (mC c_JOINT_CUTS) (mBin .sub (mVar 0) (mC (.int 1))))
def mf_cuts_of : Mf := bodyM 1 m_cuts_of
def p_cuts_of : List IV → Option IV := pureM mf_cuts_of
def m_steps_of : Ms := mRet (mIx (mC c_JOINT_STEPS) (mBin .sub (mVar 0) (mC (.int 1))))
def mf_steps_of : Mf := bodyM 1 m_steps_of
def p_steps_of : List IV → Option IV := pureM mf_steps_of
def m_joins_of : Ms := mRet (mIx (mC c_JOINT_JOINS) (mBin .sub (mVar 0) (mC (.int 1))))
def mf_joins_of : Mf := bodyM 1 m_joins_of
def p_joins_of : List IV → Option IV := pureM mf_joins_of
def m_fixed (p : List IV → Option IV) : Ms := mThen (mIfS (mTru (mIsi kt_list_tuple (mVar 0))) (mRet (mBf bTupleX (mCons (mLc (mSeq (mVar 0)) (gN 1) [1] (mYes) (mCallP 1 p [] (mCons (mVar 1) (mNil)))) (mNil)))) (mNx)) (mRet (mVar 0))
def pn_fixed : Nat → List IV → Option IV
  | 0 => fun _ => none
  | n + 1 => pureM (bodyM 2 (m_fixed (pn_fixed n)))
def m_storey_on : Ms := mThen (mSet 3 (mNew (mNil))) (mThen (mFor (mSeq (mFld 1 (mVar 0))) (gN 4) (mIfS (mCmpB .isin (mVar 4) (mFld 2 (mVar 0))) (mEx (mApp (mVar 3) (mIx (mVar 1) (mTix (mFld 2 (mVar 0)) (mVar 4))))) (mThen (mEx (mApp (mVar 3) (mVar 2))) (mSet 2 (mBin .add (mVar 2) (mC (.int 1))))))) (mRet (mBf bTupleX (mCons (mVar 3) (mNil)))))
def mf_storey_on : Mf := bodyM 5 m_storey_on
def p_storey_on : List IV → Option IV := pureM mf_storey_on
def m_high_of : Ms := mRet (mBf bTupleX (mCons (mLc (mSeq (mFld 3 (mVar 0))) (gN 2) [2] (mYes) (mIx (mVar 1) (mTix (mFld 1 (mVar 0)) (mVar 2)))) (mNil)))
def mf_high_of : Mf := bodyM 3 m_high_of
def p_high_of : List IV → Option IV := pureM mf_high_of
def m_are_kinds_of : Ms := mThen (mIfS (mOr (mNot (mTru (mCallP 1 p_is_listed [] (mCons (mVar 1) (mNil))))) (mCmpB .gt (mBf bLen (mCons (mVar 1) (mNil))) (mC c_MOST_LONG))) (mRet (mC (.bl false))) (mNx)) (mRet (mBf bAll (mCons (mLc (mSeq (mVar 1)) (gN 2) [2] (mYes) (mAndV (mIsi kt_str (mVar 2)) (mB (mCmpB .isin (mVar 2) (mFld 9 (mVar 0)))))) (mNil))))
def mf_are_kinds_of : Mf := bodyM 3 m_are_kinds_of
def p_are_kinds_of : List IV → Option IV := pureM mf_are_kinds_of
def m_Word___init___1 : Ms := mEx (mCallP 2 p_need_kit [.str "kit"] (mCons (mVar 1) (mNil)))
def m_Word___init___2 : Ms := mIfS (mNot (mTru (mCallP 2 p_are_kinds_of [] (mCons (mVar 1) (mCons (mVar 2) (mNil)))))) (mBad) (mNx)
def m_Word___init___4 : Ms := mFldS 10 (mVar 0) (mVar 1)
def m_Word___init___5 : Ms := mFldS 9 (mVar 0) (mBf bTupleX (mCons (mVar 2) (mNil)))
def m_Word___init___6 : Ms := mFldS 2 (mVar 0) (mCallP 1 p_finest [] (mCons (mFld 6 (mVar 1)) (mNil)))
def m_Word___init___7 : Ms := mFldS 11 (mVar 0) (mFld 6 (mVar 1))
def m_Word___init___8 : Ms := mPar 3 4 (mCons (mNew (mNil)) (mCons (mFld 2 (mVar 0)) (mNil)))
def m_Word___init___10 : Ms := mSet 6 (mCallP 3 p_storey_on [] (mCons (mMeth 1 2 p_Kit_kind [] (mVar 1) (mCons (mVar 5) (mNil))) (mCons (mVar 4) (mCons (mFld 11 (mVar 0)) (mNil)))))
def m_Word___init___11 : Ms := mFldS 11 (mVar 0) (mBf bMax (mCons (mBin .add (mLst (mCons (mFld 11 (mVar 0)) (mNil))) (mLc (mSeq (mVar 6)) (gN 9) [9] (mYes) (mBin .add (mVar 9) (mC (.int 1))))) (mNil)))
def m_Word___init___12 : Ms := mEx (mExt (mVar 3) (mLc (mSeq (mCallP 1 p_pairs_in [] (mCons (mMeth 1 2 p_Kit_kind [] (mVar 1) (mCons (mVar 5) (mNil))) (mNil)))) (gSeq fun xs env => if xs.length = 2 then (gCons' (gN 7) (gCons' (gN 8) (gNil'))) xs env else none) [7, 8] (mYes) (mTup (mCons (mIx (mVar 6) (mVar 7)) (mCons (mIx (mVar 6) (mVar 8)) (mNil))))))
def m_Word___init___13 : Ms := mSet 4 (mCallP 2 p_high_of [] (mCons (mMeth 1 2 p_Kit_kind [] (mVar 1) (mCons (mVar 5) (mNil))) (mCons (mVar 6) (mNil))))
def r_Word___init___12 : Ms := mThen (m_Word___init___12) (m_Word___init___13)
def r_Word___init___11 : Ms := mThen (m_Word___init___11) (r_Word___init___12)
def r_Word___init___10 : Ms := mThen (m_Word___init___10) (r_Word___init___11)
def m_Word___init___9 : Ms := mFor (mSeq (mFld 9 (mVar 0))) (gN 5) (r_Word___init___10)
def m_Word___init___14 : Ms := mFldS 3 (mVar 0) (mVar 4)
def m_Word___init___15 : Ms := mFldS 4 (mVar 0) (mBf bTupleX (mCons (mVar 3) (mNil)))
def r_Word___init___14 : Ms := mThen (m_Word___init___14) (m_Word___init___15)
def r_Word___init___9 : Ms := mThen (m_Word___init___9) (r_Word___init___14)
def r_Word___init___8 : Ms := mThen (m_Word___init___8) (r_Word___init___9)
def r_Word___init___7 : Ms := mThen (m_Word___init___7) (r_Word___init___8)
def r_Word___init___6 : Ms := mThen (m_Word___init___6) (r_Word___init___7)
def r_Word___init___5 : Ms := mThen (m_Word___init___5) (r_Word___init___6)
def r_Word___init___4 : Ms := mThen (m_Word___init___4) (r_Word___init___5)
def r_Word___init___2 : Ms := mThen (m_Word___init___2) (r_Word___init___4)
def r_Word___init___1 : Ms := mThen (m_Word___init___1) (r_Word___init___2)
def m_Word___init__ : Ms := r_Word___init___1
def mf_Word___init__ : Mf := bodyM 10 m_Word___init__
def p_Word___init__ : List IV → Option IV := pureM mf_Word___init__
def k_Word___init__ : List IV → Option IV := pureMk 2 mf_Word___init__
def m_need_word : Ms := mThen (mIfS (mNot (mTru (mIsi kt_Word (mVar 0)))) (mBad) (mNx)) (mRet (mVar 0))
def mf_need_word : Mf := bodyM 2 m_need_word
def p_need_word : List IV → Option IV := pureM mf_need_word
def m_need_two_words : Ms := mThen (mEx (mCallP 2 p_need_word [] (mCons (mVar 0) (mCons (mC (.str "one")) (mNil))))) (mThen (mEx (mCallP 2 p_need_word [] (mCons (mVar 1) (mCons (mC (.str "other")) (mNil))))) (mThen (mIfS (mCmpB .ne (mFld 5 (mFld 10 (mVar 0))) (mFld 5 (mFld 10 (mVar 1)))) (mBad) (mNx)) (mIfS (mCmpB .ne (mFld 6 (mFld 10 (mVar 0))) (mFld 6 (mFld 10 (mVar 1)))) (mBad) (mNx))))
def mf_need_two_words : Mf := bodyM 2 m_need_two_words
def p_need_two_words : List IV → Option IV := pureM mf_need_two_words
def m_is_row : Ms := mRet (mAndV (mCallP 1 p_is_listed [] (mCons (mVar 0) (mNil))) (mAndV (mB (mCmpB .eq (mBf bLen (mCons (mVar 0) (mNil))) (mBf bLen (mCons (mCallP 1 p_cuts_of [] (mCons (mVar 1) (mNil))) (mNil))))) (mBf bAll (mCons (mLc (mSeq (mVar 0)) (gN 2) [2] (mYes) (mCallP 1 p_is_integer [] (mCons (mVar 2) (mNil)))) (mNil)))))
def mf_is_row : Mf := bodyM 3 m_is_row
def p_is_row : List IV → Option IV := pureM mf_is_row
def m_is_steady : Ms := mRet (mBf bAll (mCons (mLc (mSeq (mCallP 1 p_steps_of [] (mCons (mVar 2) (mNil)))) (gSeq fun xs env => if xs.length = 3 then (gCons' (gN 3) (gCons' (gN 4) (gCons' (gN 5) (gNil')))) xs env else none) [3, 4, 5] (mYes) (mB (mChn .le .le (mIx (mVar 0) (mVar 4)) (mIx (mVar 0) (mVar 3)) (mBin .add (mIx (mVar 0) (mVar 4)) (mBin .mul (mVar 1) (mVar 5)))))) (mNil)))
def mf_is_steady : Mf := bodyM 6 m_is_steady
def p_is_steady : List IV → Option IV := pureM mf_is_steady
def m_are_rows : Ms := mThen (mIfS (mOr (mNot (mTru (mCallP 1 p_is_listed [] (mCons (mVar 0) (mNil))))) (mCmpB .notin (mBf bLen (mCons (mVar 0) (mNil))) (mTup (mCons (mC (.int 0)) (mCons (mBf bLen (mCons (mCallP 1 p_cuts_of [] (mCons (mVar 2) (mNil))) (mNil))) (mNil)))))) (mRet (mC (.bl false))) (mNx)) (mThen (mIfS (mCmpB .eq (mBf bLen (mCons (mVar 0) (mNil))) (mC (.int 0))) (mRet (mC (.bl true))) (mNx)) (mThen (mIfS (mOr (mNot (mTru (mBf bAll (mCons (mLc (mSeq (mVar 0)) (gN 4) [4] (mYes) (mCallP 2 p_is_row [] (mCons (mVar 4) (mCons (mVar 2) (mNil))))) (mNil))))) (mCmpB .ne (mIx (mIx (mVar 0) (mC (.int 0))) (mC (.int 0))) (mC (.int 0)))) (mRet (mC (.bl false))) (mNx)) (mThen (mIfS (mNot (mTru (mBf bAll (mCons (mLc (mSeq (mVar 0)) (gN 4) [4] (mYes) (mCallP 3 p_is_steady [] (mCons (mVar 4) (mCons (mVar 1) (mCons (mVar 2) (mNil)))))) (mNil))))) (mRet (mC (.bl false))) (mNx)) (mRet (mBf bAll (mCons (mLc (mRng1 (mBf bLen (mCons (mVar 0) (mNil)))) (gN 3) [3] (mYes) (mCallP 3 p_is_steady [] (mCons (mLc (mSeq (mVar 0)) (gN 4) [4] (mYes) (mIx (mVar 4) (mVar 3))) (mCons (mVar 1) (mCons (mVar 2) (mNil)))))) (mNil)))))))
def mf_are_rows : Mf := bodyM 5 m_are_rows
def p_are_rows : List IV → Option IV := pureM mf_are_rows
def m_Deed___init__ : Ms := mThen (mEx (mCallP 1 p_need_grade [] (mCons (mVar 1) (mNil)))) (mThen (mIfS (mNot (mTru (mCallP 3 p_is_between [] (mCons (mVar 2) (mCons (mC (.int 1)) (mCons (mC c_MOST_JOINTS) (mNil))))))) (mBad) (mNx)) (mThen (mIfS (mNot (mTru (mCallP 3 p_are_rows [] (mCons (mVar 3) (mCons (mVar 1) (mCons (mVar 2) (mNil))))))) (mBad) (mNx)) (mThen (mFldS 8 (mVar 0) (mVar 1)) (mThen (mFldS 6 (mVar 0) (mVar 2)) (mFldS 12 (mVar 0) (mCallP 1 (pn_fixed 4) [] (mCons (mVar 3) (mNil))))))))
def mf_Deed___init__ : Mf := bodyM 4 m_Deed___init__
def p_Deed___init__ : List IV → Option IV := pureM mf_Deed___init__
def k_Deed___init__ : List IV → Option IV := pureMk 3 mf_Deed___init__
def m_Deed___eq__ : Ms := mThen (mIfS (mNot (mTru (mIsi kt_Deed (mVar 1)))) (mRet (mC (.bl false))) (mNx)) (mRet (mB (mCmpB .eq (mTup (mCons (mFld 8 (mVar 0)) (mCons (mFld 6 (mVar 0)) (mCons (mFld 12 (mVar 0)) (mNil))))) (mTup (mCons (mFld 8 (mVar 1)) (mCons (mFld 6 (mVar 1)) (mCons (mFld 12 (mVar 1)) (mNil))))))))
def mf_Deed___eq__ : Mf := bodyM 2 m_Deed___eq__
def p_Deed___eq__ : List IV → Option IV := pureM mf_Deed___eq__
def m_lost_deed : Ms := mRet (mMake 4 k_Deed___init__ [] (mCons (mVar 0) (mCons (mVar 1) (mCons (mTup (mNil)) (mNil)))))
def mf_lost_deed : Mf := bodyM 2 m_lost_deed
def p_lost_deed : List IV → Option IV := pureM mf_lost_deed
def m_empty_rows : Ms := mThen (mSet 2 (mCallP 1 p_cuts_of [] (mCons (mVar 1) (mNil)))) (mRet (mLc (mSeq (mCallP 1 p_joins_of [] (mCons (mVar 1) (mNil)))) (gN 3) [3] (mYes) (mLc (mSeq (mVar 3)) (gN 4) [4] (mYes) (mBin .mul (mVar 0) (mIx (mVar 2) (mVar 4))))))
def mf_empty_rows : Mf := bodyM 5 m_empty_rows
def p_empty_rows : List IV → Option IV := pureM mf_empty_rows
def m_exact_rows : Ms := mThen (mAsg (gSeq fun xs env => if xs.length = 3 then (gCons' (gN 2) (gCons' (gN 3) (gCons' (gN 4) (gNil')))) xs env else none) (mTup (mCons (mCallP 1 p_numbers_in [] (mCons (mVar 1) (mNil))) (mCons (mCallP 1 p_pairs_in [] (mCons (mVar 1) (mNil))) (mCons (mBf bLen (mCons (mFld 2 (mVar 1)) (mNil))) (mNil)))))) (mThen (mPar 5 6 (mCons (mLc (mSeq (mFld 2 (mVar 1))) (gN 13) [13] (mYes) (mDix (mVar 2) (mVar 13))) (mCons (mLc (mSeq (mFld 3 (mVar 1))) (gN 13) [13] (mYes) (mDix (mVar 2) (mVar 13))) (mNil)))) (mThen (mSet 7 (mDk2n (mSeq (mCallP 1 p_joint_partings [] (mCons (mVar 4) (mNil)))) (gN 11) [11, 12] (mYes) (mSeq (mCallP 1 p_joint_partings [] (mCons (mVar 4) (mNil)))) (gN 12) [12] (mYes) (mTup (mCons (mVar 11) (mCons (mVar 12) (mNil)))) (mC .non))) (mThen (mFor (mSeq (mCallP 1 p_partings_of [] (mCons (mBf bLen (mCons (mFld 1 (mVar 1)) (mNil))) (mNil)))) (gN 8) (mThen (mSet 9 (mTup (mCons (mCallP 1 p_told_by [] (mCons (mLc (mSeq (mVar 5)) (gN 13) [13] (mYes) (mIx (mVar 8) (mVar 13))) (mNil))) (mCons (mCallP 1 p_told_by [] (mCons (mLc (mSeq (mVar 6)) (gN 13) [13] (mYes) (mIx (mVar 8) (mVar 13))) (mNil))) (mNil))))) (mThen (mSet 10 (mBin .sub (mBin .mul (mVar 0) (mBin .sub (mCallP 1 p_blocks_of [] (mCons (mVar 8) (mNil))) (mC (.int 1)))) (mCallP 2 p_passing_in [] (mCons (mVar 3) (mCons (mVar 8) (mNil)))))) (mIfS (mOr (mCmpB .is (mNix (mVar 7) (mVar 9)) (mC .non)) (mCmpB .gt (mVar 10) (mNix (mVar 7) (mVar 9)))) (mNpt (mVar 7) (mVar 9) (mVar 10)) (mNx))))) (mFz 7 (mRet (mVar 7))))))
def mf_exact_rows : Mf := bodyM 14 m_exact_rows
def p_exact_rows : List IV → Option IV := pureM mf_exact_rows
def m_kind_rows : Ms := mThen (mAsg (gSeq fun xs env => if xs.length = 2 then (gCons' (gN 2) (gCons' (gN 3) (gNil'))) xs env else none) (mTup (mCons (mCallP 2 p_exact_rows [] (mCons (mVar 0) (mCons (mVar 1) (mNil)))) (mCons (mCallP 1 p_joint_partings [] (mCons (mBf bLen (mCons (mFld 2 (mVar 1)) (mNil))) (mNil))) (mNil))))) (mThen (mSet 4 (mNew (mNil))) (mThen (mFor (mSeq (mVar 3)) (gN 5) (mThen (mSet 6 (mNew (mNil))) (mThen (mFor (mSeq (mVar 3)) (gN 7) (mThen (mSet 8 (mLc (mNks (mVar 2)) (gSeq fun xs env => if xs.length = 2 then (gCons' (gN 9) (gCons' (gN 10) (gNil'))) xs env else none) [9, 10] (mAnd (mTru (mCallP 2 p_is_over [] (mCons (mVar 9) (mCons (mVar 5) (mNil))))) (mTru (mCallP 2 p_is_over [] (mCons (mVar 10) (mCons (mVar 7) (mNil)))))) (mNix (mVar 2) (mTup (mCons (mVar 9) (mCons (mVar 10) (mNil))))))) (mEx (mApp (mVar 6) (mBf bMax (mCons (mLc (mSeq (mVar 8)) (gN 11) [11] (mCmpB .isnot (mVar 11) (mC .non)) (mVar 11)) (mNil))))))) (mFz 6 (mEx (mApp (mVar 4) (mVar 6))))))) (mFz 4 (mRet (mVar 4)))))
def mf_kind_rows : Mf := bodyM 12 m_kind_rows
def p_kind_rows : List IV → Option IV := pureM mf_kind_rows
def m_made_deed : Ms := mRet (mMake 4 k_Deed___init__ [] (mCons (mVar 0) (mCons (mVar 1) (mCons (mIf (mCmpB .eq (mIx (mIx (mVar 2) (mC (.int 0))) (mC (.int 0))) (mC (.int 0))) (mVar 2) (mTup (mNil))) (mNil)))))
def mf_made_deed : Mf := bodyM 3 m_made_deed
def p_made_deed : List IV → Option IV := pureM mf_made_deed
def m_after_rows : Ms := mThen (mSet 4 (mBf bRng (mCons (mBf bLen (mCons (mCallP 1 p_cuts_of [] (mCons (mVar 1) (mNil))) (mNil))) (mNil)))) (mThen (mSet 5 (mNew (mNil))) (mThen (mFor (mSeq (mVar 2)) (gN 6) (mThen (mSet 7 (mLc (mZip2 (mVar 6) (mCallP 1 p_cuts_of [] (mCons (mVar 1) (mNil)))) (gSeq fun xs env => if xs.length = 2 then (gCons' (gN 8) (gCons' (gN 9) (gNil'))) xs env else none) [8, 9] (mYes) (mBin .sub (mVar 8) (mBin .mul (mVar 0) (mVar 9))))) (mEx (mApp (mVar 5) (mLc (mRv (mVar 4)) (gN 10) [10] (mYes) (mBf bMax (mCons (mLc (mRv (mVar 4)) (gN 11) [11] (mYes) (mBin .add (mIx (mVar 7) (mVar 11)) (mIx (mIx (mVar 3) (mVar 11)) (mVar 10)))) (mNil)))))))) (mFz 5 (mRet (mVar 5)))))
def mf_after_rows : Mf := bodyM 12 m_after_rows
def p_after_rows : List IV → Option IV := pureM mf_after_rows
def m_put_after : Ms := mThen (mIfS (mOr (mCmpB .eq (mFld 12 (mVar 0)) (mTup (mNil))) (mCmpB .eq (mFld 12 (mVar 1)) (mTup (mNil)))) (mRet (mCallP 2 p_lost_deed [] (mCons (mFld 8 (mVar 0)) (mCons (mFld 6 (mVar 0)) (mNil))))) (mNx)) (mRet (mCallP 3 p_made_deed [] (mCons (mFld 8 (mVar 0)) (mCons (mFld 6 (mVar 0)) (mCons (mCallP 4 p_after_rows [] (mCons (mFld 8 (mVar 0)) (mCons (mFld 6 (mVar 0)) (mCons (mFld 12 (mVar 0)) (mCons (mFld 12 (mVar 1)) (mNil)))))) (mNil))))))
def mf_put_after : Mf := bodyM 2 m_put_after
def p_put_after : List IV → Option IV := pureM mf_put_after
def m_deed_of_names_1 : Ms := mSet 3 (mMake 4 k_Deed___init__ [] (mCons (mFld 8 (mVar 0)) (mCons (mFld 6 (mVar 0)) (mCons (mCallP 2 p_empty_rows [] (mCons (mFld 8 (mVar 0)) (mCons (mFld 6 (mVar 0)) (mNil)))) (mNil)))))
def m_deed_of_names_3 : Ms := mSet 3 (mCallP 2 p_put_after [] (mCons (mVar 3) (mCons (mDix (mVar 1) (mVar 4)) (mNil))))
def m_deed_of_names_2 : Ms := mFor (mSeq (mVar 2)) (gN 4) (m_deed_of_names_3)
def m_deed_of_names_4 : Ms := mRet (mVar 3)
def r_deed_of_names_2 : Ms := mThen (m_deed_of_names_2) (m_deed_of_names_4)
def r_deed_of_names_1 : Ms := mThen (m_deed_of_names_1) (r_deed_of_names_2)
def m_deed_of_names : Ms := r_deed_of_names_1
def mf_deed_of_names : Mf := bodyM 5 m_deed_of_names
def p_deed_of_names : List IV → Option IV := pureM mf_deed_of_names
def m_kind_deeds : Ms := mRet (mDc (mSeq (mFld 7 (mVar 0))) (gN 1) [1] (mYes) (mFld 0 (mVar 1)) (mCallP 3 p_made_deed [] (mCons (mFld 8 (mVar 0)) (mCons (mFld 6 (mVar 0)) (mCons (mCallP 2 p_kind_rows [] (mCons (mFld 8 (mVar 0)) (mCons (mVar 1) (mNil)))) (mNil))))))
def mf_kind_deeds : Mf := bodyM 2 m_kind_deeds
def p_kind_deeds : List IV → Option IV := pureM mf_kind_deeds
def m_empty_deed : Ms := mThen (mSet 1 (mCallP 2 p_need_kit [.str "kit"] (mCons (mVar 0) (mNil)))) (mRet (mMake 4 k_Deed___init__ [] (mCons (mFld 8 (mVar 1)) (mCons (mFld 6 (mVar 1)) (mCons (mCallP 2 p_empty_rows [] (mCons (mFld 8 (mVar 1)) (mCons (mFld 6 (mVar 1)) (mNil)))) (mNil))))))
def mf_empty_deed : Mf := bodyM 2 m_empty_deed
def p_empty_deed : List IV → Option IV := pureM mf_empty_deed
def m_kind_deed : Ms := mThen (mSet 2 (mCallP 2 p_need_kit [.str "kit"] (mCons (mVar 0) (mNil)))) (mRet (mCallP 3 p_made_deed [] (mCons (mFld 8 (mVar 2)) (mCons (mFld 6 (mVar 2)) (mCons (mCallP 2 p_kind_rows [] (mCons (mFld 8 (mVar 2)) (mCons (mMeth 1 2 p_Kit_kind [] (mVar 2) (mCons (mVar 1) (mNil))) (mNil)))) (mNil))))))
def mf_kind_deed : Mf := bodyM 3 m_kind_deed
def p_kind_deed : List IV → Option IV := pureM mf_kind_deed
def m_deed_of : Ms := mThen (mSet 1 (mCallP 2 p_need_word [.str "word"] (mCons (mVar 0) (mNil)))) (mRet (mCallP 3 p_deed_of_names [] (mCons (mFld 10 (mVar 1)) (mCons (mCallP 1 p_kind_deeds [] (mCons (mFld 10 (mVar 1)) (mNil))) (mCons (mFld 9 (mVar 1)) (mNil))))))
def mf_deed_of : Mf := bodyM 2 m_deed_of
def p_deed_of : List IV → Option IV := pureM mf_deed_of
def m_may_swap : Ms := mThen (mEx (mCallP 2 p_need_two_words [] (mCons (mVar 0) (mCons (mVar 1) (mNil))))) (mRet (mB (mOwn 3 p_Deed___eq__ id (mCallP 1 p_deed_of [] (mCons (mVar 0) (mNil))) (mCallP 1 p_deed_of [] (mCons (mVar 1) (mNil))))))
def mf_may_swap : Mf := bodyM 2 m_may_swap
def p_may_swap : List IV → Option IV := pureM mf_may_swap
def m__law_pen : Ms := mRet (mNew (mCons (mLc (mSeq (mSl (mVar 0) (mNoE) (mEnd (mC (.int 63))))) (gN 1) [1] (mYes) (mBf bInt (mCons (mVar 1) (mNil)))) (mCons (mC (.int 0)) (mCons (mC (.int 0)) (mNil)))))
def mf__law_pen : Mf := bodyM 2 m__law_pen
def p__law_pen : List IV → Option IV := pureM mf__law_pen
def m__law_draw : Ms := mThen (mIfS (mCmpB .gt (mIx (mVar 0) (mC (.int 2))) (mC (.int 0))) (mThen (mSet 2 (mBf bInt (mCons (mIx (mVar 0) (mC (.int 2))) (mNil)))) (mThen (mItem (mVar 0) (mC (.int 2)) (mBin .fdiv (mVar 2) (mVar 1))) (mRet (mBin .mod (mBf bInt (mCons (mVar 2) (mNil))) (mVar 1))))) (mNx)) (mThen (mSet 3 (mIx (mVar 0) (mC (.int 1)))) (mThen (mItem (mVar 0) (mC (.int 1)) (mBin .add (mVar 3) (mC (.int 1)))) (mThen (mSet 4 (mBin .add (mBin .mul (mC (.int 70867)) (mVar 3)) (mC (.int 13127)))) (mThen (mIfS (mCmpB .ne (mIx (mVar 0) (mC (.int 0))) (mLst (mNil))) (mSet 4 (mIx (mIx (mVar 0) (mC (.int 0))) (mBin .mod (mBf bInt (mCons (mVar 3) (mNil))) (mBf bLen (mCons (mIx (mVar 0) (mC (.int 0))) (mNil)))))) (mNx)) (mThen (mIfS (mAnd (mCmpB .lt (mVar 3) (mBf bLen (mCons (mIx (mVar 0) (mC (.int 0))) (mNil)))) (mCmpB .ge (mBf bAbs (mCons (mVar 4) (mNil))) (mBin .pow (mC (.int 10)) (mC (.int 18))))) (mThen (mSet 2 (mBin .add (mBin .mul (mC (.int 2)) (mBin .sub (mBf bAbs (mCons (mVar 4) (mNil))) (mBin .pow (mC (.int 10)) (mC (.int 18))))) (mBf bInt (mCons (mB (mCmpB .lt (mVar 4) (mC (.int 0)))) (mNil))))) (mThen (mItem (mVar 0) (mC (.int 2)) (mBin .fdiv (mBf bInt (mCons (mVar 2) (mNil))) (mVar 1))) (mRet (mBin .mod (mBf bInt (mCons (mVar 2) (mNil))) (mVar 1))))) (mNx)) (mThen (mSet 5 (mBin .mod (mBf bInt (mCons (mBin .pow (mBin .add (mBin .add (mBin .mod (mBf bInt (mCons (mVar 4) (mNil))) (mC (.int 2147483549))) (mBin .mul (mC (.int 70867)) (mVar 3))) (mC (.int 13127))) (mC (.int 5))) (mNil))) (mC (.int 2147483629)))) (mThen (mSet 5 (mBin .mod (mBf bInt (mCons (mBin .pow (mBin .add (mBin .add (mBin .mul (mVar 5) (mBin .add (mBin .mul (mC (.int 2)) (mVar 3)) (mC (.int 7193)))) (mBin .mul (mBin .mul (mC (.int 38011)) (mVar 3)) (mVar 3))) (mC (.int 70867))) (mC (.int 3))) (mNil))) (mC (.int 2147483587)))) (mRet (mBin .mod (mBf bInt (mCons (mBin .fdiv (mVar 5) (mC (.int 64))) (mNil))) (mVar 1))))))))))
def mf__law_draw : Mf := bodyM 6 m__law_draw
def p__law_draw : List IV → Option IV := pureM mf__law_draw
def m__law_pick : Ms := mRet (mIx (mVar 1) (mCall 2 mf__law_draw [] (mCons (mVar 0) (mCons (mBf bLen (mCons (mVar 1) (mNil))) (mNil)))))
def mf__law_pick : Mf := bodyM 2 m__law_pick
def p__law_pick : List IV → Option IV := pureM mf__law_pick
def m__law_ce_partings : Ms := mThen (mSet 1 (mLst (mCons (mTup (mNil)) (mNil)))) (mThen (mFor (mRng1 (mVar 0)) (gN 2) (mThen (mSet 3 (mNew (mNil))) (mThen (mFor (mSeq (mVar 1)) (gN 4) (mEx (mExt (mVar 3) (mLc (mRng1 (mIf (mCmpB .ne (mVar 4) (mTup (mNil))) (mBin .add (mC (.int 2)) (mBf bMax (mCons (mVar 4) (mNil)))) (mC (.int 1)))) (gN 5) [5] (mYes) (mBin .add (mVar 4) (mTup (mCons (mVar 5) (mNil)))))))) (mFz 3 (mSet 1 (mVar 3)))))) (mRet (mVar 1)))
def mf__law_ce_partings : Mf := bodyM 6 m__law_ce_partings
def p__law_ce_partings : List IV → Option IV := pureM mf__law_ce_partings
def m__law_ce_told : Ms := mThen (mSet 1 (mDnew)) (mRet (mBf bTupleX (mCons (mLc (mSeq (mVar 0)) (gN 2) [2] (mYes) (mDsd (mVar 1) (mVar 2) (mBf bLen (mCons (mVar 1) (mNil))))) (mNil))))
def mf__law_ce_told : Mf := bodyM 3 m__law_ce_told
def p__law_ce_told : List IV → Option IV := pureM mf__law_ce_told
def m__law_ce_over : Ms := mRet (mB (mCmpB .eq (mLen2 (mLz (mCons (mVar 1) (mCons (mVar 0) (mNil))))) (mLen2 (mVar 1))))
def mf__law_ce_over : Mf := bodyM 2 m__law_ce_over
def p__law_ce_over : List IV → Option IV := pureM mf__law_ce_over
def m__law_ce_join : Ms := mThen (mSet 2 (mBf bList (mCons (mVar 0) (mNil)))) (mThen (mFor (mRng1 (mBf bLen (mCons (mVar 2) (mNil)))) (gN 3) (mFor (mRng1 (mVar 3)) (gN 4) (mIfS (mCmpB .eq (mIx (mVar 1) (mVar 3)) (mIx (mVar 1) (mVar 4))) (mThen (mAsg (gSeq fun xs env => if xs.length = 2 then (gCons' (gN 5) (gCons' (gN 6) (gNil'))) xs env else none) (mTup (mCons (mIx (mVar 2) (mVar 3)) (mCons (mIx (mVar 2) (mVar 4)) (mNil))))) (mSet 2 (mLc (mSeq (mVar 2)) (gN 7) [7] (mYes) (mIf (mCmpB .isin (mVar 7) (mTup (mCons (mVar 5) (mCons (mVar 6) (mNil))))) (mBf bMin (mCons (mVar 5) (mCons (mVar 6) (mNil)))) (mVar 7))))) (mNx)))) (mRet (mCallP 1 p__law_ce_told [] (mCons (mVar 2) (mNil)))))
def mf__law_ce_join : Mf := bodyM 8 m__law_ce_join
def p__law_ce_join : List IV → Option IV := pureM mf__law_ce_join
def m__law_ce_through : Ms := mThen (mSet 3 (mBf bTupleX (mCons (mLc (mRng1 (mBf bLen (mCons (mVar 1) (mNil)))) (gN 5) [5] (mYes) (mBin .add (mC (.str "a")) (mBf bStr (mCons (mVar 5) (mNil))))) (mNil)))) (mThen (mSet 4 (mRepN (mLst (mCons (mC (.str "")) (mNil))) (mBf bLen (mCons (mVar 1) (mNil))))) (mThen (mFor (mEnum (mVar 1)) (gSeq fun xs env => if xs.length = 2 then (gCons' (gN 5) (gCons' (gN 6) (gNil'))) xs env else none) (mItem (mVar 4) (mVar 6) (mIx (mVar 3) (mVar 5)))) (mRet (mTup (mCons (mVar 0) (mCons (mVar 3) (mCons (mVar 3) (mCons (mBf bTupleX (mCons (mVar 4) (mNil))) (mCons (mBf bTupleX (mCons (mLc (mSeq (mVar 2)) (gSeq fun xs env => if xs.length = 2 then (gCons' (gN 7) (gCons' (gN 8) (gNil'))) xs env else none) [7, 8] (mYes) (mTup (mCons (mIx (mVar 3) (mVar 7)) (mCons (mIx (mVar 3) (mVar 8)) (mNil))))) (mNil))) (mNil))))))))))
def mf__law_ce_through : Mf := bodyM 9 m__law_ce_through
def p__law_ce_through : List IV → Option IV := pureM mf__law_ce_through
def m__law_ce_rails : Ms := mThen (mSet 2 (mBf bTupleX (mCons (mLc (mRng1 (mBf bLen (mCons (mVar 1) (mNil)))) (gN 5) [5] (mYes) (mBin .add (mC (.str "a")) (mBf bStr (mCons (mVar 5) (mNil))))) (mNil)))) (mThen (mSet 3 (mBf bTupleX (mCons (mLc (mRng1 (mBf bLen (mCons (mVar 1) (mNil)))) (gN 5) [5] (mYes) (mBin .add (mC (.str "b")) (mBf bStr (mCons (mVar 5) (mNil))))) (mNil)))) (mThen (mSet 4 (mBf bSumL (mCons (mLc (mEnum (mVar 1)) (gSeq fun xs env => if xs.length = 2 then (gCons' (gN 5) (gCons' (gN 6) (gNil'))) xs env else none) [5, 6] (mYes) (mBin .mul (mLst (mCons (mTup (mCons (mIx (mVar 2) (mVar 5)) (mCons (mIx (mVar 3) (mVar 5)) (mNil)))) (mNil))) (mVar 6))) (mCons (mLst (mNil)) (mNil))))) (mRet (mTup (mCons (mVar 0) (mCons (mCatX (mVar 2) (mVar 3)) (mCons (mVar 2) (mCons (mVar 3) (mCons (mBf bTupleX (mCons (mVar 4) (mNil))) (mNil))))))))))
def mf__law_ce_rails : Mf := bodyM 7 m__law_ce_rails
def p__law_ce_rails : List IV → Option IV := pureM mf__law_ce_rails
def m__law_ce_made : Ms := mRet (mMake 4 k_Kit___init__ [] (mCons (mIx (mVar 0) (mC (.int 0))) (mCons (mIx (mVar 0) (mC (.int 1))) (mCons (mLc (mSeq (mIx (mVar 0) (mC (.int 2)))) (gN 1) [1] (mYes) (mMake 6 k_Kind___init__ [] (mCons (mIx (mVar 1) (mC (.int 0))) (mCons (mIx (mVar 1) (mC (.int 1))) (mCons (mIx (mVar 1) (mC (.int 2))) (mCons (mIx (mVar 1) (mC (.int 3))) (mCons (mIx (mVar 1) (mC (.int 4))) (mNil)))))))) (mNil)))))
def mf__law_ce_made : Mf := bodyM 2 m__law_ce_made
def p__law_ce_made : List IV → Option IV := pureM mf__law_ce_made
def m__law_ce_grade : Ms := mRet (mIx (mTup (mCons (mC (.int 0)) (mCons (mC (.int 1)) (mCons (mC (.int 3)) (mCons (mC (.int 6)) (mNil)))))) (mIx (mVar 0) (mC (.int 0))))
def mf__law_ce_grade : Mf := bodyM 1 m__law_ce_grade
def p__law_ce_grade : List IV → Option IV := pureM mf__law_ce_grade
def m__law_ce_stack : Ms := mThen (mPar3 2 3 4 (mCons (mBin .add (mC (.int 1)) (mBf bMax (mCons (mVar 1) (mNil)))) (mCons (mLst (mNil)) (mCons (mBf bList (mCons (mVar 1) (mNil))) (mNil))))) (mThen (mSet 5 (mBf bList (mCons (mVar 1) (mNil)))) (mThen (mFor (mSeq (mVar 0)) (gSeq fun xs env => if xs.length = 5 then (gCons' (gN 6) (gCons' (gN 7) (gCons' (gN 8) (gCons' (gN 9) (gCons' (gN 10) (gNil')))))) xs env else none) (mThen (mSet 11 (mBf bDict (mCons (mLz (mCons (mVar 8) (mCons (mVar 5) (mNil)))) (mNil)))) (mThen (mFor (mSeq (mVar 7)) (gN 12) (mIfS (mCmpB .notin (mVar 12) (mVar 11)) (mThen (mDpt (mVar 11) (mVar 12) (mVar 2)) (mSet 2 (mBin .add (mVar 2) (mC (.int 1))))) (mNx))) (mThen (mSet 3 (mBin .add (mVar 3) (mLc (mSeq (mVar 10)) (gSeq fun xs env => if xs.length = 2 then (gCons' (gN 13) (gCons' (gN 14) (gNil'))) xs env else none) [13, 14] (mYes) (mTup (mCons (mDix (mVar 11) (mVar 13)) (mCons (mDix (mVar 11) (mVar 14)) (mNil))))))) (mSet 5 (mLc (mSeq (mVar 9)) (gN 12) [12] (mYes) (mDix (mVar 11) (mVar 12)))))))) (mRet (mTup (mCons (mVar 2) (mCons (mVar 3) (mCons (mVar 4) (mCons (mVar 5) (mNil)))))))))
def mf__law_ce_stack : Mf := bodyM 15 m__law_ce_stack
def p__law_ce_stack : List IV → Option IV := pureM mf__law_ce_stack
def m__law_ce_kind_rows_1 : Ms := mPar 2 3 (mCons (mCallP 1 p__law_ce_grade [] (mCons (mVar 0) (mNil))) (mCons (mCallP 1 p__law_ce_partings [] (mCons (mIx (mVar 0) (mC (.int 1))) (mNil))) (mNil)))
def m__law_ce_kind_rows_2 : Ms := mAsg (gSeq fun xs env => if xs.length = 4 then (gCons' (gN 4) (gCons' (gN 5) (gCons' (gN 6) (gCons' (gN 7) (gNil'))))) xs env else none) (mCallP 2 p__law_ce_stack [] (mCons (mLst (mCons (mVar 1) (mNil))) (mCons (mTupRg (mIx (mVar 0) (mC (.int 1)))) (mNil))))
def m__law_ce_kind_rows_3 : Ms := mSet 8 (mNnew)
def m__law_ce_kind_rows_5 : Ms := mSet 10 (mBin .sub (mBin .mul (mVar 2) (mBf bMax (mCons (mVar 9) (mNil)))) (mBf bLen (mCons (mLc (mSeq (mVar 5)) (gSeq fun xs env => if xs.length = 2 then (gCons' (gN 16) (gCons' (gN 17) (gNil'))) xs env else none) [16, 17] (mCmpB .ne (mIx (mVar 9) (mVar 16)) (mIx (mVar 9) (mVar 17))) (mC (.int 1))) (mNil))))
def m__law_ce_kind_rows_6 : Ms := mSet 11 (mTup (mCons (mCallP 1 p__law_ce_told [] (mCons (mLc (mSeq (mVar 6)) (gN 18) [18] (mYes) (mIx (mVar 9) (mVar 18))) (mNil))) (mCons (mCallP 1 p__law_ce_told [] (mCons (mLc (mSeq (mVar 7)) (gN 18) [18] (mYes) (mIx (mVar 9) (mVar 18))) (mNil))) (mNil))))
def m__law_ce_kind_rows_7 : Ms := mNpt (mVar 8) (mVar 11) (mBf bMax (mCons (mVar 10) (mCons (mNgt (mVar 8) (mVar 11) (mVar 10)) (mNil))))
def r__law_ce_kind_rows_6 : Ms := mThen (m__law_ce_kind_rows_6) (m__law_ce_kind_rows_7)
def r__law_ce_kind_rows_5 : Ms := mThen (m__law_ce_kind_rows_5) (r__law_ce_kind_rows_6)
def m__law_ce_kind_rows_4 : Ms := mFor (mSeq (mCallP 1 p__law_ce_partings [] (mCons (mVar 4) (mNil)))) (gN 9) (r__law_ce_kind_rows_5)
def m__law_ce_kind_rows_8 : Ms := mSet 12 (mNew (mNil))
def m__law_ce_kind_rows_10 : Ms := mSet 14 (mNew (mNil))
def m__law_ce_kind_rows_12 : Ms := mEx (mApp (mVar 14) (mBf bMax (mCons (mLc (mNks (mVar 8)) (gN 11) [11] (mAnd (mTru (mCallP 2 p__law_ce_over [] (mCons (mIx (mVar 11) (mC (.int 0))) (mCons (mVar 13) (mNil))))) (mTru (mCallP 2 p__law_ce_over [] (mCons (mIx (mVar 11) (mC (.int 1))) (mCons (mVar 15) (mNil)))))) (mNix (mVar 8) (mVar 11))) (mNil))))
def m__law_ce_kind_rows_11 : Ms := mFor (mSeq (mVar 3)) (gN 15) (m__law_ce_kind_rows_12)
def m__law_ce_kind_rows_13 : Ms := mEx (mApp (mVar 12) (mBf bTupleX (mCons (mVar 14) (mNil))))
def r__law_ce_kind_rows_11 : Ms := mThen (m__law_ce_kind_rows_11) (m__law_ce_kind_rows_13)
def r__law_ce_kind_rows_10 : Ms := mThen (m__law_ce_kind_rows_10) (r__law_ce_kind_rows_11)
def m__law_ce_kind_rows_9 : Ms := mFor (mSeq (mVar 3)) (gN 13) (r__law_ce_kind_rows_10)
def m__law_ce_kind_rows_14 : Ms := mRet (mIf (mCmpB .eq (mIx (mIx (mVar 12) (mC (.int 0))) (mC (.int 0))) (mC (.int 0))) (mBf bTupleX (mCons (mVar 12) (mNil))) (mTup (mNil)))
def r__law_ce_kind_rows_9 : Ms := mThen (m__law_ce_kind_rows_9) (m__law_ce_kind_rows_14)
def r__law_ce_kind_rows_8 : Ms := mFz 8 (mThen (m__law_ce_kind_rows_8) (r__law_ce_kind_rows_9))
def r__law_ce_kind_rows_4 : Ms := mThen (m__law_ce_kind_rows_4) (r__law_ce_kind_rows_8)
def r__law_ce_kind_rows_3 : Ms := mThen (m__law_ce_kind_rows_3) (r__law_ce_kind_rows_4)
def r__law_ce_kind_rows_2 : Ms := mThen (m__law_ce_kind_rows_2) (r__law_ce_kind_rows_3)
def r__law_ce_kind_rows_1 : Ms := mThen (m__law_ce_kind_rows_1) (r__law_ce_kind_rows_2)
def m__law_ce_kind_rows : Ms := r__law_ce_kind_rows_1
def mf__law_ce_kind_rows : Mf := bodyM 19 m__law_ce_kind_rows
def p__law_ce_kind_rows : List IV → Option IV := pureM mf__law_ce_kind_rows
def m__law_ce_empty : Ms := mThen (mSet 1 (mCallP 1 p__law_ce_partings [] (mCons (mIx (mVar 0) (mC (.int 1))) (mNil)))) (mRet (mBf bTupleX (mCons (mLc (mSeq (mVar 1)) (gN 2) [2] (mYes) (mBf bTupleX (mCons (mLc (mSeq (mVar 1)) (gN 3) [3] (mYes) (mBin .mul (mCallP 1 p__law_ce_grade [] (mCons (mVar 0) (mNil))) (mBf bMax (mCons (mCallP 2 p__law_ce_join [] (mCons (mVar 2) (mCons (mVar 3) (mNil)))) (mNil))))) (mNil)))) (mNil))))
def mf__law_ce_empty : Mf := bodyM 4 m__law_ce_empty
def p__law_ce_empty : List IV → Option IV := pureM mf__law_ce_empty
def m__law_ce_after : Ms := mThen (mIfS (mOr (mCmpB .eq (mVar 1) (mTup (mNil))) (mCmpB .eq (mVar 2) (mTup (mNil)))) (mRet (mTup (mNil))) (mNx)) (mThen (mAsg (gSeq fun xs env => if xs.length = 2 then (gCons' (gN 3) (gCons' (gN 4) (gNil'))) xs env else none) (mTup (mCons (mCallP 1 p__law_ce_partings [] (mCons (mIx (mVar 0) (mC (.int 1))) (mNil))) (mCons (mNew (mNil)) (mNil))))) (mThen (mSet 5 (mLc (mSeq (mVar 3)) (gN 7) [7] (mYes) (mBin .mul (mCallP 1 p__law_ce_grade [] (mCons (mVar 0) (mNil))) (mBf bMax (mCons (mVar 7) (mNil)))))) (mThen (mFor (mSeq (mVar 1)) (gN 6) (mEx (mApp (mVar 4) (mBf bTupleX (mCons (mLc (mRng1 (mBf bLen (mCons (mVar 3) (mNil)))) (gN 8) [8] (mYes) (mBf bMax (mCons (mLc (mRng1 (mBf bLen (mCons (mVar 3) (mNil)))) (gN 9) [9] (mYes) (mBin .sub (mBin .add (mIx (mVar 6) (mVar 9)) (mIx (mIx (mVar 2) (mVar 9)) (mVar 8))) (mIx (mVar 5) (mVar 9)))) (mNil)))) (mNil)))))) (mRet (mIf (mCmpB .eq (mIx (mIx (mVar 4) (mC (.int 0))) (mC (.int 0))) (mC (.int 0))) (mBf bTupleX (mCons (mVar 4) (mNil))) (mTup (mNil)))))))
def mf__law_ce_after : Mf := bodyM 10 m__law_ce_after
def p__law_ce_after : List IV → Option IV := pureM mf__law_ce_after
def m__law_ce_steps : Ms := mRet (mFrz (mBf bDict (mCons (mLc (mSeq (mIx (mVar 0) (mC (.int 2)))) (gN 1) [1] (mYes) (mTup (mCons (mIx (mVar 1) (mC (.int 0))) (mCons (mCallP 2 p__law_ce_kind_rows [] (mCons (mVar 0) (mCons (mVar 1) (mNil)))) (mNil))))) (mNil))))
def mf__law_ce_steps : Mf := bodyM 2 m__law_ce_steps
def p__law_ce_steps : List IV → Option IV := pureM mf__law_ce_steps
def m__law_ce_deed : Ms := mThen (mSet 3 (mCallP 1 p__law_ce_empty [] (mCons (mVar 0) (mNil)))) (mThen (mFor (mSeq (mVar 2)) (gN 4) (mSet 3 (mCallP 3 p__law_ce_after [] (mCons (mVar 0) (mCons (mVar 3) (mCons (mDix (mVar 1) (mVar 4)) (mNil))))))) (mRet (mVar 3)))
def mf__law_ce_deed : Mf := bodyM 5 m__law_ce_deed
def p__law_ce_deed : List IV → Option IV := pureM mf__law_ce_deed
def m__law_rails_rows_2 : Ms := mRet (mTup (mNil))
def m__law_rails_rows_1 : Ms := mIfS (mCmpB .lt (mBin .add (mVar 1) (mVar 2)) (mVar 0)) (m__law_rails_rows_2) (mNx)
def m__law_rails_rows_3 : Ms := mSet 5 (mNew (mNil))
def m__law_rails_rows_5 : Ms := mSet 7 (mNew (mNil))
def m__law_rails_rows_7 : Ms := mSet 9 (mNew (mCons (mC (.int 0)) (mNil)))
def m__law_rails_rows_10 : Ms := mSet 11 (mLst (mCons (mTup (mCons (mC (.int 0)) (mCons (mC (.int 2)) (mCons (mVar 1) (mNil))))) (mCons (mTup (mCons (mC (.int 1)) (mCons (mC (.int 3)) (mCons (mVar 2) (mNil))))) (mCons (mTup (mCons (mC (.int 0)) (mCons (mC (.int 1)) (mCons (mIf (mTru (mVar 6)) (mVar 3) (mC (.int 0))) (mNil))))) (mCons (mTup (mCons (mC (.int 2)) (mCons (mC (.int 3)) (mCons (mIf (mTru (mVar 8)) (mVar 4) (mC (.int 0))) (mNil))))) (mNil))))))
def m__law_rails_rows_11 : Ms := mEx (mApp (mVar 9) (mBin .sub (mBin .mul (mVar 0) (mBf bMax (mCons (mVar 10) (mNil)))) (mBf bSum (mCons (mLc (mSeq (mVar 11)) (gSeq fun xs env => if xs.length = 3 then (gCons' (gN 12) (gCons' (gN 13) (gCons' (gN 14) (gNil')))) xs env else none) [12, 13, 14] (mCmpB .ne (mIx (mVar 10) (mVar 12)) (mIx (mVar 10) (mVar 13))) (mVar 14)) (mNil)))))
def r__law_rails_rows_10 : Ms := mThen (m__law_rails_rows_10) (m__law_rails_rows_11)
def m__law_rails_rows_9 : Ms := mIfS (mAnd (mOr (mTru (mVar 6)) (mCmpB .eq (mIx (mVar 10) (mC (.int 0))) (mIx (mVar 10) (mC (.int 1))))) (mOr (mTru (mVar 8)) (mCmpB .eq (mIx (mVar 10) (mC (.int 2))) (mIx (mVar 10) (mC (.int 3)))))) (r__law_rails_rows_10) (mNx)
def m__law_rails_rows_8 : Ms := mFor (mSeq (mCallP 1 p__law_ce_partings [] (mCons (mC (.int 4)) (mNil)))) (gN 10) (m__law_rails_rows_9)
def m__law_rails_rows_12 : Ms := mEx (mApp (mVar 7) (mBf bMax (mCons (mVar 9) (mNil))))
def r__law_rails_rows_8 : Ms := mThen (m__law_rails_rows_8) (m__law_rails_rows_12)
def r__law_rails_rows_7 : Ms := mThen (m__law_rails_rows_7) (r__law_rails_rows_8)
def m__law_rails_rows_6 : Ms := mFor (mSeq (mTup (mCons (mC (.bl false)) (mCons (mC (.bl true)) (mNil))))) (gN 8) (r__law_rails_rows_7)
def m__law_rails_rows_13 : Ms := mEx (mApp (mVar 5) (mBf bTupleX (mCons (mVar 7) (mNil))))
def r__law_rails_rows_6 : Ms := mThen (m__law_rails_rows_6) (m__law_rails_rows_13)
def r__law_rails_rows_5 : Ms := mThen (m__law_rails_rows_5) (r__law_rails_rows_6)
def m__law_rails_rows_4 : Ms := mFor (mSeq (mTup (mCons (mC (.bl false)) (mCons (mC (.bl true)) (mNil))))) (gN 6) (r__law_rails_rows_5)
def m__law_rails_rows_14 : Ms := mRet (mBf bTupleX (mCons (mVar 5) (mNil)))
def r__law_rails_rows_4 : Ms := mThen (m__law_rails_rows_4) (m__law_rails_rows_14)
def r__law_rails_rows_3 : Ms := mThen (m__law_rails_rows_3) (r__law_rails_rows_4)
def r__law_rails_rows_1 : Ms := mThen (m__law_rails_rows_1) (r__law_rails_rows_3)
def m__law_rails_rows : Ms := r__law_rails_rows_1
def mf__law_rails_rows : Mf := bodyM 15 m__law_rails_rows
def p__law_rails_rows : List IV → Option IV := pureM mf__law_rails_rows
def m_law_1 : Ms := mSet 1 (mCall 1 mf__law_pen [] (mCons (mVar 0) (mNil)))
def m_law_3 : Ms := mSet 3 (mCall 2 mf__law_pick [] (mCons (mVar 1) (mCons (mLst (mCons (mC (.int 1)) (mCons (mC (.int 2)) (mCons (mC (.int 3)) (mNil))))) (mNil))))
def m_law_4 : Ms := mSet 4 (mIx (mTup (mCons (mC (.int 0)) (mCons (mC (.int 1)) (mCons (mC (.int 3)) (mCons (mC (.int 6)) (mNil)))))) (mVar 3))
def m_law_5 : Ms := mAsg (gSeq fun xs env => if xs.length = 2 then (gCons' (gN 5) (gCons' (gN 6) (gNil'))) xs env else none) (mLc (mRng1 (mC (.int 2))) (gN 18) [18] (mYes) (mCall 2 mf__law_draw [] (mCons (mVar 1) (mCons (mBin .add (mVar 4) (mC (.int 3))) (mNil)))))
def m_law_6 : Ms := mAsg (gSeq fun xs env => if xs.length = 2 then (gCons' (gN 7) (gCons' (gN 8) (gNil'))) xs env else none) (mLc (mRng1 (mC (.int 2))) (gN 18) [18] (mYes) (mCall 2 mf__law_draw [] (mCons (mVar 1) (mCons (mBin .add (mVar 4) (mC (.int 2))) (mNil)))))
def m_law_7 : Ms := mPar 9 10 (mCons (mCallP 3 p__law_ce_through [] (mCons (mC (.str "low")) (mCons (mLst (mCons (mC (.int 0)) (mCons (mC (.int 1)) (mNil)))) (mCons (mBin .mul (mLst (mCons (mTup (mCons (mC (.int 0)) (mCons (mC (.int 1)) (mNil)))) (mNil))) (mVar 7)) (mNil))))) (mCons (mCallP 3 p__law_ce_through [] (mCons (mC (.str "high")) (mCons (mLst (mCons (mC (.int 0)) (mCons (mC (.int 1)) (mNil)))) (mCons (mBin .mul (mLst (mCons (mTup (mCons (mC (.int 0)) (mCons (mC (.int 1)) (mNil)))) (mNil))) (mVar 8)) (mNil))))) (mNil)))
def m_law_8 : Ms := mSet 11 (mTup (mCons (mVar 3) (mCons (mC (.int 2)) (mCons (mTup (mCons (mCallP 2 p__law_ce_rails [] (mCons (mC (.str "rails")) (mCons (mLst (mCons (mVar 5) (mCons (mVar 6) (mNil)))) (mNil)))) (mCons (mVar 9) (mCons (mVar 10) (mCons (mCallP 3 p__law_ce_through [] (mCons (mC (.str "cross")) (mCons (mLst (mCons (mC (.int 1)) (mCons (mC (.int 0)) (mNil)))) (mCons (mLst (mNil)) (mNil))))) (mNil)))))) (mNil)))))
def m_law_9 : Ms := mSet 12 (mCallP 1 p__law_ce_made [] (mCons (mVar 11) (mNil)))
def m_law_10 : Ms := mSet 13 (mCallP 5 p__law_rails_rows [] (mCons (mVar 4) (mCons (mVar 5) (mCons (mVar 6) (mCons (mVar 7) (mCons (mVar 8) (mNil)))))))
def m_law_12 : Ms := mRet (mC (.bl false))
def m_law_11 : Ms := mIfS (mOr (mCmpB .ne (mBf bRepr (mCons (mFld 12 (mCallP 1 p_deed_of [] (mCons (mMake 3 k_Word___init__ [] (mCons (mVar 12) (mCons (mLst (mCons (mC (.str "low")) (mCons (mC (.str "rails")) (mCons (mC (.str "high")) (mNil))))) (mNil)))) (mNil)))) (mNil))) (mBf bRepr (mCons (mVar 13) (mNil)))) (mCmpB .ne (mFld 12 (mCallP 1 p_deed_of [] (mCons (mMake 3 k_Word___init__ [] (mCons (mVar 12) (mCons (mLst (mCons (mC (.str "rails")) (mNil))) (mNil)))) (mNil)))) (mCallP 5 p__law_rails_rows [] (mCons (mVar 4) (mCons (mVar 5) (mCons (mVar 6) (mCons (mC (.int 0)) (mCons (mC (.int 0)) (mNil))))))))) (m_law_12) (mNx)
def m_law_14 : Ms := mRet (mC (.bl false))
def m_law_13 : Ms := mIfS (mOr (mOwn 3 p_Deed___eq__ (!·) (mCallP 2 p_kind_deed [] (mCons (mVar 12) (mCons (mC (.str "cross")) (mNil)))) (mCallP 1 p_empty_deed [] (mCons (mVar 12) (mNil)))) (mOr (mNot (mTru (mCallP 2 p_may_swap [] (mCons (mMake 3 k_Word___init__ [] (mCons (mVar 12) (mCons (mLst (mCons (mC (.str "cross")) (mCons (mC (.str "rails")) (mNil)))) (mNil)))) (mCons (mMake 3 k_Word___init__ [] (mCons (mVar 12) (mCons (mLst (mCons (mC (.str "rails")) (mNil))) (mNil)))) (mNil)))))) (mNot (mTru (mCallP 2 p_may_swap [] (mCons (mMake 3 k_Word___init__ [] (mCons (mVar 12) (mCons (mLst (mCons (mC (.str "low")) (mCons (mC (.str "cross")) (mNil)))) (mNil)))) (mCons (mMake 3 k_Word___init__ [] (mCons (mVar 12) (mCons (mLst (mCons (mC (.str "cross")) (mCons (mC (.str "low")) (mNil)))) (mNil)))) (mNil)))))))) (m_law_14) (mNx)
def m_law_15 : Ms := mSet 14 (mCall 2 mf__law_draw [] (mCons (mVar 1) (mCons (mC (.int 31)) (mNil))))
def m_law_16 : Ms := mSet 15 (mMake 3 k_Word___init__ [] (mCons (mVar 12) (mCons (mBin .add (mBin .add (mBin .mul (mLst (mCons (mC (.str "low")) (mNil))) (mVar 14)) (mBin .mul (mLst (mCons (mC (.str "cross")) (mNil))) (mCall 2 mf__law_draw [] (mCons (mVar 1) (mCons (mC (.int 10)) (mNil)))))) (mBin .mul (mLst (mCons (mC (.str "low")) (mNil))) (mCall 2 mf__law_draw [] (mCons (mVar 1) (mCons (mC (.int 20)) (mNil)))))) (mNil))))
def m_law_17 : Ms := mSet 16 (mBin .mul (mVar 7) (mTct (mFld 9 (mVar 15)) (mC (.str "low"))))
def m_law_19 : Ms := mRet (mC (.bl false))
def m_law_18 : Ms := mIfS (mCmpB .ne (mBf bRepr (mCons (mFld 12 (mCallP 1 p_deed_of [] (mCons (mVar 15) (mNil)))) (mNil))) (mBf bRepr (mCons (mTup (mCons (mTup (mCons (mC (.int 0)) (mCons (mC (.int 0)) (mNil)))) (mCons (mTup (mCons (mC (.int 0)) (mCons (mBf bMax (mCons (mC (.int 0)) (mCons (mBin .sub (mVar 4) (mVar 16)) (mNil)))) (mNil)))) (mNil)))) (mNil)))) (m_law_19) (mNx)
def m_law_20 : Ms := mSet 17 (mMake 4 k_Kit___init__ [] (mCons (mVar 3) (mCons (mC (.int 2)) (mCons (mLst (mCons (mMake 6 k_Kind___init__ [] (mCons (mC (.str "rails")) (mCons (mLst (mCons (mC (.str "a")) (mCons (mC (.str "b")) (mCons (mC (.str "c")) (mCons (mC (.str "d")) (mNil)))))) (mCons (mLst (mCons (mC (.str "a")) (mCons (mC (.str "b")) (mNil)))) (mCons (mLst (mCons (mC (.str "c")) (mCons (mC (.str "d")) (mNil)))) (mCons (mBin .add (mBin .mul (mLst (mCons (mLst (mCons (mC (.str "a")) (mCons (mC (.str "c")) (mNil)))) (mNil))) (mVar 4)) (mBin .mul (mLst (mCons (mLst (mCons (mC (.str "b")) (mCons (mC (.str "d")) (mNil)))) (mNil))) (mVar 4))) (mNil))))))) (mNil))) (mNil)))))
def m_law_22 : Ms := mRet (mC (.bl false))
def m_law_21 : Ms := mIfS (mOwn 3 p_Deed___eq__ (!·) (mCallP 1 p_deed_of [] (mCons (mMake 3 k_Word___init__ [] (mCons (mVar 17) (mCons (mBin .mul (mLst (mCons (mC (.str "rails")) (mNil))) (mCall 2 mf__law_draw [] (mCons (mVar 1) (mCons (mC (.int 61)) (mNil))))) (mNil)))) (mNil))) (mCallP 1 p_empty_deed [] (mCons (mVar 17) (mNil)))) (m_law_22) (mNx)
def m_law_23 : Ms := mSet 14 (mBin .add (mC (.int 2)) (mCall 2 mf__law_draw [] (mCons (mVar 1) (mCons (mC (.int 30)) (mNil)))))
def m_law_25 : Ms := mRet (mC (.bl false))
def m_law_24 : Ms := mIfS (mCmpB .ne (mFld 12 (mCallP 1 p_deed_of [] (mCons (mMake 3 k_Word___init__ [] (mCons (mVar 12) (mCons (mBin .mul (mLst (mCons (mC (.str "rails")) (mNil))) (mVar 14)) (mNil)))) (mNil)))) (mCallP 3 p__law_ce_deed [] (mCons (mVar 11) (mCons (mCallP 1 p__law_ce_steps [] (mCons (mVar 11) (mNil))) (mCons (mBin .mul (mTup (mCons (mC (.str "rails")) (mNil))) (mVar 14)) (mNil)))))) (m_law_25) (mNx)
def r_law_23 : Ms := mThen (m_law_23) (m_law_24)
def r_law_21 : Ms := mThen (m_law_21) (r_law_23)
def r_law_20 : Ms := mThen (m_law_20) (r_law_21)
def r_law_18 : Ms := mThen (m_law_18) (r_law_20)
def r_law_17 : Ms := mThen (m_law_17) (r_law_18)
def r_law_16 : Ms := mThen (m_law_16) (r_law_17)
def r_law_15 : Ms := mThen (m_law_15) (r_law_16)
def r_law_13 : Ms := mThen (m_law_13) (r_law_15)
def r_law_11 : Ms := mThen (m_law_11) (r_law_13)
def r_law_10 : Ms := mThen (m_law_10) (r_law_11)
def r_law_9 : Ms := mThen (m_law_9) (r_law_10)
def r_law_8 : Ms := mThen (m_law_8) (r_law_9)
def r_law_7 : Ms := mThen (m_law_7) (r_law_8)
def r_law_6 : Ms := mThen (m_law_6) (r_law_7)
def r_law_5 : Ms := mThen (m_law_5) (r_law_6)
def r_law_4 : Ms := mThen (m_law_4) (r_law_5)
def r_law_3 : Ms := mThen (m_law_3) (r_law_4)
def m_law_2 : Ms := mFor (mRng1 (mC (.int 4))) (gN 2) (r_law_3)
def m_law_26 : Ms := mRet (mC (.bl true))
def r_law_2 : Ms := mThen (m_law_2) (m_law_26)
def r_law_1 : Ms := mThen (m_law_1) (r_law_2)
def m_law : Ms := r_law_1
def mf_law : Mf := bodyM 19 m_law
def p_law : List IV → Option IV := pureM mf_law
end L22

namespace L22
open PySem PySem.Spec PyProof.Rows L2 Iv
structure WF (P : Program) (w : World) (K : PySem.W.Frag) (mg : Str → Option Value) where
  facts : Facts (GX P w K)
  fd_is_integer : FuncData
  F_is_integer : FunD K "is_integer" "is_integer" (defArgs (topS 5)) (defBody (topS 5)) (defScope (topS 5)) [] [] (He.fAd K ("is_integer", none)) fd_is_integer
  b_is_integer : Binds K fd_is_integer ["value"] []
  g_is_integer : mg "is_integer" = some (.ref (He.fAd K ("is_integer", none)))
  fd_is_between : FuncData
  F_is_between : FunD K "is_between" "is_between" (defArgs (topS 6)) (defBody (topS 6)) (defScope (topS 6)) [] [] (He.fAd K ("is_between", none)) fd_is_between
  b_is_between : Binds K fd_is_between ["value", "least", "most"] []
  g_is_between : mg "is_between" = some (.ref (He.fAd K ("is_between", none)))
  fd_is_name : FuncData
  F_is_name : FunD K "is_name" "is_name" (defArgs (topS 7)) (defBody (topS 7)) (defScope (topS 7)) [] [] (He.fAd K ("is_name", none)) fd_is_name
  b_is_name : Binds K fd_is_name ["value"] []
  g_is_name : mg "is_name" = some (.ref (He.fAd K ("is_name", none)))
  fd_is_listed : FuncData
  F_is_listed : FunD K "is_listed" "is_listed" (defArgs (topS 8)) (defBody (topS 8)) (defScope (topS 8)) [] [] (He.fAd K ("is_listed", none)) fd_is_listed
  b_is_listed : Binds K fd_is_listed ["value"] []
  g_is_listed : mg "is_listed" = some (.ref (He.fAd K ("is_listed", none)))
  fd_ascends : FuncData
  F_ascends : FunD K "ascends" "ascends" (defArgs (topS 9)) (defBody (topS 9)) (defScope (topS 9)) [] [] (He.fAd K ("ascends", none)) fd_ascends
  b_ascends : Binds K fd_ascends ["some"] []
  g_ascends : mg "ascends" = some (.ref (He.fAd K ("ascends", none)))
  fd_are_unlike : FuncData
  F_are_unlike : FunD K "are_unlike" "are_unlike" (defArgs (topS 10)) (defBody (topS 10)) (defScope (topS 10)) [] [] (He.fAd K ("are_unlike", none)) fd_are_unlike
  b_are_unlike : Binds K fd_are_unlike ["some"] []
  g_are_unlike : mg "are_unlike" = some (.ref (He.fAd K ("are_unlike", none)))
  fd_are_names : FuncData
  F_are_names : FunD K "are_names" "are_names" (defArgs (topS 11)) (defBody (topS 11)) (defScope (topS 11)) [] [] (He.fAd K ("are_names", none)) fd_are_names
  b_are_names : Binds K fd_are_names ["value", "least", "most"] []
  g_are_names : mg "are_names" = some (.ref (He.fAd K ("are_names", none)))
  fd_blocks_of : FuncData
  F_blocks_of : FunD K "blocks_of" "blocks_of" (defArgs (topS 23)) (defBody (topS 23)) (defScope (topS 23)) [] [] (He.fAd K ("blocks_of", none)) fd_blocks_of
  b_blocks_of : Binds K fd_blocks_of ["parting"] []
  g_blocks_of : mg "blocks_of" = some (.ref (He.fAd K ("blocks_of", none)))
  fd_told_by : FuncData
  F_told_by : FunD K "told_by" "told_by" (defArgs (topS 24)) (defBody (topS 24)) (defScope (topS 24)) [] [] (He.fAd K ("told_by", none)) fd_told_by
  b_told_by : Binds K fd_told_by ["labels"] []
  g_told_by : mg "told_by" = some (.ref (He.fAd K ("told_by", none)))
  fd_is_over : FuncData
  F_is_over : FunD K "is_over" "is_over" (defArgs (topS 25)) (defBody (topS 25)) (defScope (topS 25)) [] [] (He.fAd K ("is_over", none)) fd_is_over
  b_is_over : Binds K fd_is_over ["one", "other"] []
  g_is_over : mg "is_over" = some (.ref (He.fAd K ("is_over", none)))
  fd_partings_of : FuncData
  F_partings_of : FunD K "partings_of" "partings_of" (defArgs (topS 26)) (defBody (topS 26)) (defScope (topS 26)) [] [] (He.fAd K ("partings_of", none)) fd_partings_of
  b_partings_of : Binds K fd_partings_of ["many"] []
  g_partings_of : mg "partings_of" = some (.ref (He.fAd K ("partings_of", none)))
  fd_finest : FuncData
  F_finest : FunD K "finest" "finest" (defArgs (topS 27)) (defBody (topS 27)) (defScope (topS 27)) [] [] (He.fAd K ("finest", none)) fd_finest
  b_finest : Binds K fd_finest ["many"] []
  g_finest : mg "finest" = some (.ref (He.fAd K ("finest", none)))
  fd_passing_in : FuncData
  F_passing_in : FunD K "passing_in" "passing_in" (defArgs (topS 29)) (defBody (topS 29)) (defScope (topS 29)) [] [] (He.fAd K ("passing_in", none)) fd_passing_in
  b_passing_in : Binds K fd_passing_in ["ropes", "grouping"] []
  g_passing_in : mg "passing_in" = some (.ref (He.fAd K ("passing_in", none)))
  fd_is_rope : FuncData
  F_is_rope : FunD K "is_rope" "is_rope" (defArgs (topS 34)) (defBody (topS 34)) (defScope (topS 34)) [] [] (He.fAd K ("is_rope", none)) fd_is_rope
  b_is_rope : Binds K fd_is_rope ["value", "pieces"] []
  g_is_rope : mg "is_rope" = some (.ref (He.fAd K ("is_rope", none)))
  fd_are_ropes : FuncData
  F_are_ropes : FunD K "are_ropes" "are_ropes" (defArgs (topS 35)) (defBody (topS 35)) (defScope (topS 35)) [] [] (He.fAd K ("are_ropes", none)) fd_are_ropes
  b_are_ropes : Binds K fd_are_ropes ["value", "pieces"] []
  g_are_ropes : mg "are_ropes" = some (.ref (He.fAd K ("are_ropes", none)))
  fd_are_joints : FuncData
  F_are_joints : FunD K "are_joints" "are_joints" (defArgs (topS 36)) (defBody (topS 36)) (defScope (topS 36)) [] [] (He.fAd K ("are_joints", none)) fd_are_joints
  b_are_joints : Binds K fd_are_joints ["value", "pieces", "least", "most"] []
  g_are_joints : mg "are_joints" = some (.ref (He.fAd K ("are_joints", none)))
  fd_Kind___init__ : FuncData
  F_Kind___init__ : FunD K "__init__" "Kind.__init__" (defArgs (inS (topS 37) 0)) (defBody (inS (topS 37) 0)) (defScope (inS (topS 37) 0)) [] [] (He.fAd K ("Kind", some "__init__")) fd_Kind___init__
  b_Kind___init__ : Binds K fd_Kind___init__ ["self", "name", "pieces", "low", "high", "ropes"] []
  fd_numbers_in : FuncData
  F_numbers_in : FunD K "numbers_in" "numbers_in" (defArgs (topS 38)) (defBody (topS 38)) (defScope (topS 38)) [] [] (He.fAd K ("numbers_in", none)) fd_numbers_in
  b_numbers_in : Binds K fd_numbers_in ["kind"] []
  g_numbers_in : mg "numbers_in" = some (.ref (He.fAd K ("numbers_in", none)))
  fd_pairs_in : FuncData
  F_pairs_in : FunD K "pairs_in" "pairs_in" (defArgs (topS 39)) (defBody (topS 39)) (defScope (topS 39)) [] [] (He.fAd K ("pairs_in", none)) fd_pairs_in
  b_pairs_in : Binds K fd_pairs_in ["kind"] []
  g_pairs_in : mg "pairs_in" = some (.ref (He.fAd K ("pairs_in", none)))
  fd_are_kinds : FuncData
  F_are_kinds : FunD K "are_kinds" "are_kinds" (defArgs (topS 43)) (defBody (topS 43)) (defScope (topS 43)) [] [] (He.fAd K ("are_kinds", none)) fd_are_kinds
  b_are_kinds : Binds K fd_are_kinds ["value", "joints"] []
  g_are_kinds : mg "are_kinds" = some (.ref (He.fAd K ("are_kinds", none)))
  fd_Kit___init__ : FuncData
  F_Kit___init__ : FunD K "__init__" "Kit.__init__" (defArgs (inS (topS 44) 0)) (defBody (inS (topS 44) 0)) (defScope (inS (topS 44) 0)) [] [] (He.fAd K ("Kit", some "__init__")) fd_Kit___init__
  b_Kit___init__ : Binds K fd_Kit___init__ ["self", "dimension", "joints", "kinds"] []
  fd_Kit_kind : FuncData
  F_Kit_kind : FunD K "kind" "Kit.kind" (defArgs (inS (topS 44) 2)) (defBody (inS (topS 44) 2)) (defScope (inS (topS 44) 2)) [] [] (He.fAd K ("Kit", some "kind")) fd_Kit_kind
  b_Kit_kind : Binds K fd_Kit_kind ["self", "name"] []
  mt_Kit_kind : Meth K (He.ga K "Kit") "kind" (He.fAd K ("Kit", some "kind"))
  fd_need_kit : FuncData
  F_need_kit : FunD K "need_kit" "need_kit" (defArgs (topS 45)) (defBody (topS 45)) (defScope (topS 45)) [.str "kit"] [] (He.fAd K ("need_kit", none)) fd_need_kit
  b_need_kit : Binds K fd_need_kit ["value", "part"] []
  bd1_need_kit : ∃ ds, Vals [.str "kit"] ds ∧ Binds K fd_need_kit ["value", "part"] ds
  g_need_kit : mg "need_kit" = some (.ref (He.fAd K ("need_kit", none)))
  fd_need_grade : FuncData
  F_need_grade : FunD K "need_grade" "need_grade" (defArgs (topS 47)) (defBody (topS 47)) (defScope (topS 47)) [] [] (He.fAd K ("need_grade", none)) fd_need_grade
  b_need_grade : Binds K fd_need_grade ["value"] []
  g_need_grade : mg "need_grade" = some (.ref (He.fAd K ("need_grade", none)))
  fd_joint_partings : FuncData
  F_joint_partings : FunD K "joint_partings" "joint_partings" (defArgs (topS 53)) (defBody (topS 53)) (defScope (topS 53)) [] [] (He.fAd K ("joint_partings", none)) fd_joint_partings
  b_joint_partings : Binds K fd_joint_partings ["joints"] []
  g_joint_partings : mg "joint_partings" = some (.ref (He.fAd K ("joint_partings", none)))
  fd_cuts_of : FuncData
  F_cuts_of : FunD K "cuts_of" "cuts_of" (defArgs (topS 54)) (defBody (topS 54)) (defScope (topS 54)) [] [] (He.fAd K ("cuts_of", none)) fd_cuts_of
  b_cuts_of : Binds K fd_cuts_of ["joints"] []
  g_cuts_of : mg "cuts_of" = some (.ref (He.fAd K ("cuts_of", none)))
  fd_steps_of : FuncData
  F_steps_of : FunD K "steps_of" "steps_of" (defArgs (topS 55)) (defBody (topS 55)) (defScope (topS 55)) [] [] (He.fAd K ("steps_of", none)) fd_steps_of
  b_steps_of : Binds K fd_steps_of ["joints"] []
  g_steps_of : mg "steps_of" = some (.ref (He.fAd K ("steps_of", none)))
  fd_joins_of : FuncData
  F_joins_of : FunD K "joins_of" "joins_of" (defArgs (topS 56)) (defBody (topS 56)) (defScope (topS 56)) [] [] (He.fAd K ("joins_of", none)) fd_joins_of
  b_joins_of : Binds K fd_joins_of ["joints"] []
  g_joins_of : mg "joins_of" = some (.ref (He.fAd K ("joins_of", none)))
  fd_fixed : FuncData
  F_fixed : FunD K "fixed" "fixed" (defArgs (topS 58)) (defBody (topS 58)) (defScope (topS 58)) [] [] (He.fAd K ("fixed", none)) fd_fixed
  b_fixed : Binds K fd_fixed ["value"] []
  g_fixed : mg "fixed" = some (.ref (He.fAd K ("fixed", none)))
  fd_storey_on : FuncData
  F_storey_on : FunD K "storey_on" "storey_on" (defArgs (topS 60)) (defBody (topS 60)) (defScope (topS 60)) [] [] (He.fAd K ("storey_on", none)) fd_storey_on
  b_storey_on : Binds K fd_storey_on ["kind", "top", "many"] []
  g_storey_on : mg "storey_on" = some (.ref (He.fAd K ("storey_on", none)))
  fd_high_of : FuncData
  F_high_of : FunD K "high_of" "high_of" (defArgs (topS 61)) (defBody (topS 61)) (defScope (topS 61)) [] [] (He.fAd K ("high_of", none)) fd_high_of
  b_high_of : Binds K fd_high_of ["kind", "row"] []
  g_high_of : mg "high_of" = some (.ref (He.fAd K ("high_of", none)))
  fd_are_kinds_of : FuncData
  F_are_kinds_of : FunD K "are_kinds_of" "are_kinds_of" (defArgs (topS 64)) (defBody (topS 64)) (defScope (topS 64)) [] [] (He.fAd K ("are_kinds_of", none)) fd_are_kinds_of
  b_are_kinds_of : Binds K fd_are_kinds_of ["kit", "value"] []
  g_are_kinds_of : mg "are_kinds_of" = some (.ref (He.fAd K ("are_kinds_of", none)))
  fd_Word___init__ : FuncData
  F_Word___init__ : FunD K "__init__" "Word.__init__" (defArgs (inS (topS 65) 0)) (defBody (inS (topS 65) 0)) (defScope (inS (topS 65) 0)) [] [] (He.fAd K ("Word", some "__init__")) fd_Word___init__
  b_Word___init__ : Binds K fd_Word___init__ ["self", "kit", "names"] []
  fd_need_word : FuncData
  F_need_word : FunD K "need_word" "need_word" (defArgs (topS 66)) (defBody (topS 66)) (defScope (topS 66)) [.str "word"] [] (He.fAd K ("need_word", none)) fd_need_word
  b_need_word : Binds K fd_need_word ["value", "part"] []
  bd1_need_word : ∃ ds, Vals [.str "word"] ds ∧ Binds K fd_need_word ["value", "part"] ds
  g_need_word : mg "need_word" = some (.ref (He.fAd K ("need_word", none)))
  fd_need_two_words : FuncData
  F_need_two_words : FunD K "need_two_words" "need_two_words" (defArgs (topS 67)) (defBody (topS 67)) (defScope (topS 67)) [] [] (He.fAd K ("need_two_words", none)) fd_need_two_words
  b_need_two_words : Binds K fd_need_two_words ["one", "other"] []
  g_need_two_words : mg "need_two_words" = some (.ref (He.fAd K ("need_two_words", none)))
  fd_is_row : FuncData
  F_is_row : FunD K "is_row" "is_row" (defArgs (topS 69)) (defBody (topS 69)) (defScope (topS 69)) [] [] (He.fAd K ("is_row", none)) fd_is_row
  b_is_row : Binds K fd_is_row ["value", "joints"] []
  g_is_row : mg "is_row" = some (.ref (He.fAd K ("is_row", none)))
  fd_is_steady : FuncData
  F_is_steady : FunD K "is_steady" "is_steady" (defArgs (topS 70)) (defBody (topS 70)) (defScope (topS 70)) [] [] (He.fAd K ("is_steady", none)) fd_is_steady
  b_is_steady : Binds K fd_is_steady ["row", "grade", "joints"] []
  g_is_steady : mg "is_steady" = some (.ref (He.fAd K ("is_steady", none)))
  fd_are_rows : FuncData
  F_are_rows : FunD K "are_rows" "are_rows" (defArgs (topS 71)) (defBody (topS 71)) (defScope (topS 71)) [] [] (He.fAd K ("are_rows", none)) fd_are_rows
  b_are_rows : Binds K fd_are_rows ["value", "grade", "joints"] []
  g_are_rows : mg "are_rows" = some (.ref (He.fAd K ("are_rows", none)))
  fd_Deed___init__ : FuncData
  F_Deed___init__ : FunD K "__init__" "Deed.__init__" (defArgs (inS (topS 72) 0)) (defBody (inS (topS 72) 0)) (defScope (inS (topS 72) 0)) [] [] (He.fAd K ("Deed", some "__init__")) fd_Deed___init__
  b_Deed___init__ : Binds K fd_Deed___init__ ["self", "grade", "joints", "rows"] []
  fd_Deed___eq__ : FuncData
  F_Deed___eq__ : FunD K "__eq__" "Deed.__eq__" (defArgs (inS (topS 72) 1)) (defBody (inS (topS 72) 1)) (defScope (inS (topS 72) 1)) [] [] (He.fAd K ("Deed", some "__eq__")) fd_Deed___eq__
  b_Deed___eq__ : Binds K fd_Deed___eq__ ["self", "other"] []
  fd_lost_deed : FuncData
  F_lost_deed : FunD K "lost_deed" "lost_deed" (defArgs (topS 73)) (defBody (topS 73)) (defScope (topS 73)) [] [] (He.fAd K ("lost_deed", none)) fd_lost_deed
  b_lost_deed : Binds K fd_lost_deed ["grade", "joints"] []
  g_lost_deed : mg "lost_deed" = some (.ref (He.fAd K ("lost_deed", none)))
  fd_empty_rows : FuncData
  F_empty_rows : FunD K "empty_rows" "empty_rows" (defArgs (topS 74)) (defBody (topS 74)) (defScope (topS 74)) [] [] (He.fAd K ("empty_rows", none)) fd_empty_rows
  b_empty_rows : Binds K fd_empty_rows ["grade", "joints"] []
  g_empty_rows : mg "empty_rows" = some (.ref (He.fAd K ("empty_rows", none)))
  fd_exact_rows : FuncData
  F_exact_rows : FunD K "exact_rows" "exact_rows" (defArgs (topS 75)) (defBody (topS 75)) (defScope (topS 75)) [] [] (He.fAd K ("exact_rows", none)) fd_exact_rows
  b_exact_rows : Binds K fd_exact_rows ["grade", "kind"] []
  g_exact_rows : mg "exact_rows" = some (.ref (He.fAd K ("exact_rows", none)))
  fd_kind_rows : FuncData
  F_kind_rows : FunD K "kind_rows" "kind_rows" (defArgs (topS 76)) (defBody (topS 76)) (defScope (topS 76)) [] [] (He.fAd K ("kind_rows", none)) fd_kind_rows
  b_kind_rows : Binds K fd_kind_rows ["grade", "kind"] []
  g_kind_rows : mg "kind_rows" = some (.ref (He.fAd K ("kind_rows", none)))
  fd_made_deed : FuncData
  F_made_deed : FunD K "made_deed" "made_deed" (defArgs (topS 77)) (defBody (topS 77)) (defScope (topS 77)) [] [] (He.fAd K ("made_deed", none)) fd_made_deed
  b_made_deed : Binds K fd_made_deed ["grade", "joints", "rows"] []
  g_made_deed : mg "made_deed" = some (.ref (He.fAd K ("made_deed", none)))
  fd_after_rows : FuncData
  F_after_rows : FunD K "after_rows" "after_rows" (defArgs (topS 78)) (defBody (topS 78)) (defScope (topS 78)) [] [] (He.fAd K ("after_rows", none)) fd_after_rows
  b_after_rows : Binds K fd_after_rows ["grade", "joints", "one", "other"] []
  g_after_rows : mg "after_rows" = some (.ref (He.fAd K ("after_rows", none)))
  fd_put_after : FuncData
  F_put_after : FunD K "put_after" "put_after" (defArgs (topS 79)) (defBody (topS 79)) (defScope (topS 79)) [] [] (He.fAd K ("put_after", none)) fd_put_after
  b_put_after : Binds K fd_put_after ["one", "other"] []
  g_put_after : mg "put_after" = some (.ref (He.fAd K ("put_after", none)))
  fd_deed_of_names : FuncData
  F_deed_of_names : FunD K "deed_of_names" "deed_of_names" (defArgs (topS 80)) (defBody (topS 80)) (defScope (topS 80)) [] [] (He.fAd K ("deed_of_names", none)) fd_deed_of_names
  b_deed_of_names : Binds K fd_deed_of_names ["kit", "deeds", "names"] []
  g_deed_of_names : mg "deed_of_names" = some (.ref (He.fAd K ("deed_of_names", none)))
  fd_kind_deeds : FuncData
  F_kind_deeds : FunD K "kind_deeds" "kind_deeds" (defArgs (topS 81)) (defBody (topS 81)) (defScope (topS 81)) [] [] (He.fAd K ("kind_deeds", none)) fd_kind_deeds
  b_kind_deeds : Binds K fd_kind_deeds ["kit"] []
  g_kind_deeds : mg "kind_deeds" = some (.ref (He.fAd K ("kind_deeds", none)))
  fd_empty_deed : FuncData
  F_empty_deed : FunD K "empty_deed" "empty_deed" (defArgs (topS 82)) (defBody (topS 82)) (defScope (topS 82)) [] [] (He.fAd K ("empty_deed", none)) fd_empty_deed
  b_empty_deed : Binds K fd_empty_deed ["kit"] []
  g_empty_deed : mg "empty_deed" = some (.ref (He.fAd K ("empty_deed", none)))
  fd_kind_deed : FuncData
  F_kind_deed : FunD K "kind_deed" "kind_deed" (defArgs (topS 83)) (defBody (topS 83)) (defScope (topS 83)) [] [] (He.fAd K ("kind_deed", none)) fd_kind_deed
  b_kind_deed : Binds K fd_kind_deed ["kit", "name"] []
  g_kind_deed : mg "kind_deed" = some (.ref (He.fAd K ("kind_deed", none)))
  fd_deed_of : FuncData
  F_deed_of : FunD K "deed_of" "deed_of" (defArgs (topS 84)) (defBody (topS 84)) (defScope (topS 84)) [] [] (He.fAd K ("deed_of", none)) fd_deed_of
  b_deed_of : Binds K fd_deed_of ["word"] []
  g_deed_of : mg "deed_of" = some (.ref (He.fAd K ("deed_of", none)))
  fd_may_swap : FuncData
  F_may_swap : FunD K "may_swap" "may_swap" (defArgs (topS 86)) (defBody (topS 86)) (defScope (topS 86)) [] [] (He.fAd K ("may_swap", none)) fd_may_swap
  b_may_swap : Binds K fd_may_swap ["one", "other"] []
  g_may_swap : mg "may_swap" = some (.ref (He.fAd K ("may_swap", none)))
  fd__law_pen : FuncData
  F__law_pen : FunD K "_law_pen" "_law_pen" (defArgs (topS 88)) (defBody (topS 88)) (defScope (topS 88)) [] [] (He.fAd K ("_law_pen", none)) fd__law_pen
  b__law_pen : Binds K fd__law_pen ["script"] []
  g__law_pen : mg "_law_pen" = some (.ref (He.fAd K ("_law_pen", none)))
  fd__law_draw : FuncData
  F__law_draw : FunD K "_law_draw" "_law_draw" (defArgs (topS 89)) (defBody (topS 89)) (defScope (topS 89)) [] [] (He.fAd K ("_law_draw", none)) fd__law_draw
  b__law_draw : Binds K fd__law_draw ["pen", "many"] []
  g__law_draw : mg "_law_draw" = some (.ref (He.fAd K ("_law_draw", none)))
  fd__law_pick : FuncData
  F__law_pick : FunD K "_law_pick" "_law_pick" (defArgs (topS 90)) (defBody (topS 90)) (defScope (topS 90)) [] [] (He.fAd K ("_law_pick", none)) fd__law_pick
  b__law_pick : Binds K fd__law_pick ["pen", "some"] []
  g__law_pick : mg "_law_pick" = some (.ref (He.fAd K ("_law_pick", none)))
  fd__law_ce_partings : FuncData
  F__law_ce_partings : FunD K "_law_ce_partings" "_law_ce_partings" (defArgs (topS 91)) (defBody (topS 91)) (defScope (topS 91)) [] [] (He.fAd K ("_law_ce_partings", none)) fd__law_ce_partings
  b__law_ce_partings : Binds K fd__law_ce_partings ["many"] []
  g__law_ce_partings : mg "_law_ce_partings" = some (.ref (He.fAd K ("_law_ce_partings", none)))
  fd__law_ce_told : FuncData
  F__law_ce_told : FunD K "_law_ce_told" "_law_ce_told" (defArgs (topS 92)) (defBody (topS 92)) (defScope (topS 92)) [] [] (He.fAd K ("_law_ce_told", none)) fd__law_ce_told
  b__law_ce_told : Binds K fd__law_ce_told ["labels"] []
  g__law_ce_told : mg "_law_ce_told" = some (.ref (He.fAd K ("_law_ce_told", none)))
  fd__law_ce_over : FuncData
  F__law_ce_over : FunD K "_law_ce_over" "_law_ce_over" (defArgs (topS 93)) (defBody (topS 93)) (defScope (topS 93)) [] [] (He.fAd K ("_law_ce_over", none)) fd__law_ce_over
  b__law_ce_over : Binds K fd__law_ce_over ["one", "other"] []
  g__law_ce_over : mg "_law_ce_over" = some (.ref (He.fAd K ("_law_ce_over", none)))
  fd__law_ce_join : FuncData
  F__law_ce_join : FunD K "_law_ce_join" "_law_ce_join" (defArgs (topS 94)) (defBody (topS 94)) (defScope (topS 94)) [] [] (He.fAd K ("_law_ce_join", none)) fd__law_ce_join
  b__law_ce_join : Binds K fd__law_ce_join ["one", "other"] []
  g__law_ce_join : mg "_law_ce_join" = some (.ref (He.fAd K ("_law_ce_join", none)))
  fd__law_ce_through : FuncData
  F__law_ce_through : FunD K "_law_ce_through" "_law_ce_through" (defArgs (topS 95)) (defBody (topS 95)) (defScope (topS 95)) [] [] (He.fAd K ("_law_ce_through", none)) fd__law_ce_through
  b__law_ce_through : Binds K fd__law_ce_through ["name", "turned", "pairs"] []
  g__law_ce_through : mg "_law_ce_through" = some (.ref (He.fAd K ("_law_ce_through", none)))
  fd__law_ce_rails : FuncData
  F__law_ce_rails : FunD K "_law_ce_rails" "_law_ce_rails" (defArgs (topS 96)) (defBody (topS 96)) (defScope (topS 96)) [] [] (He.fAd K ("_law_ce_rails", none)) fd__law_ce_rails
  b__law_ce_rails : Binds K fd__law_ce_rails ["name", "many"] []
  g__law_ce_rails : mg "_law_ce_rails" = some (.ref (He.fAd K ("_law_ce_rails", none)))
  fd__law_ce_made : FuncData
  F__law_ce_made : FunD K "_law_ce_made" "_law_ce_made" (defArgs (topS 97)) (defBody (topS 97)) (defScope (topS 97)) [] [] (He.fAd K ("_law_ce_made", none)) fd__law_ce_made
  b__law_ce_made : Binds K fd__law_ce_made ["plain"] []
  g__law_ce_made : mg "_law_ce_made" = some (.ref (He.fAd K ("_law_ce_made", none)))
  fd__law_ce_grade : FuncData
  F__law_ce_grade : FunD K "_law_ce_grade" "_law_ce_grade" (defArgs (topS 98)) (defBody (topS 98)) (defScope (topS 98)) [] [] (He.fAd K ("_law_ce_grade", none)) fd__law_ce_grade
  b__law_ce_grade : Binds K fd__law_ce_grade ["plain"] []
  g__law_ce_grade : mg "_law_ce_grade" = some (.ref (He.fAd K ("_law_ce_grade", none)))
  fd__law_ce_stack : FuncData
  F__law_ce_stack : FunD K "_law_ce_stack" "_law_ce_stack" (defArgs (topS 99)) (defBody (topS 99)) (defScope (topS 99)) [] [] (He.fAd K ("_law_ce_stack", none)) fd__law_ce_stack
  b__law_ce_stack : Binds K fd__law_ce_stack ["kinds", "foot"] []
  g__law_ce_stack : mg "_law_ce_stack" = some (.ref (He.fAd K ("_law_ce_stack", none)))
  fd__law_ce_kind_rows : FuncData
  F__law_ce_kind_rows : FunD K "_law_ce_kind_rows" "_law_ce_kind_rows" (defArgs (topS 100)) (defBody (topS 100)) (defScope (topS 100)) [] [] (He.fAd K ("_law_ce_kind_rows", none)) fd__law_ce_kind_rows
  b__law_ce_kind_rows : Binds K fd__law_ce_kind_rows ["plain", "kind"] []
  g__law_ce_kind_rows : mg "_law_ce_kind_rows" = some (.ref (He.fAd K ("_law_ce_kind_rows", none)))
  fd__law_ce_empty : FuncData
  F__law_ce_empty : FunD K "_law_ce_empty" "_law_ce_empty" (defArgs (topS 101)) (defBody (topS 101)) (defScope (topS 101)) [] [] (He.fAd K ("_law_ce_empty", none)) fd__law_ce_empty
  b__law_ce_empty : Binds K fd__law_ce_empty ["plain"] []
  g__law_ce_empty : mg "_law_ce_empty" = some (.ref (He.fAd K ("_law_ce_empty", none)))
  fd__law_ce_after : FuncData
  F__law_ce_after : FunD K "_law_ce_after" "_law_ce_after" (defArgs (topS 102)) (defBody (topS 102)) (defScope (topS 102)) [] [] (He.fAd K ("_law_ce_after", none)) fd__law_ce_after
  b__law_ce_after : Binds K fd__law_ce_after ["plain", "one", "other"] []
  g__law_ce_after : mg "_law_ce_after" = some (.ref (He.fAd K ("_law_ce_after", none)))
  fd__law_ce_steps : FuncData
  F__law_ce_steps : FunD K "_law_ce_steps" "_law_ce_steps" (defArgs (topS 103)) (defBody (topS 103)) (defScope (topS 103)) [] [] (He.fAd K ("_law_ce_steps", none)) fd__law_ce_steps
  b__law_ce_steps : Binds K fd__law_ce_steps ["plain"] []
  g__law_ce_steps : mg "_law_ce_steps" = some (.ref (He.fAd K ("_law_ce_steps", none)))
  fd__law_ce_deed : FuncData
  F__law_ce_deed : FunD K "_law_ce_deed" "_law_ce_deed" (defArgs (topS 104)) (defBody (topS 104)) (defScope (topS 104)) [] [] (He.fAd K ("_law_ce_deed", none)) fd__law_ce_deed
  b__law_ce_deed : Binds K fd__law_ce_deed ["plain", "steps", "names"] []
  g__law_ce_deed : mg "_law_ce_deed" = some (.ref (He.fAd K ("_law_ce_deed", none)))
  fd__law_rails_rows : FuncData
  F__law_rails_rows : FunD K "_law_rails_rows" "_law_rails_rows" (defArgs (topS 105)) (defBody (topS 105)) (defScope (topS 105)) [] [] (He.fAd K ("_law_rails_rows", none)) fd__law_rails_rows
  b__law_rails_rows : Binds K fd__law_rails_rows ["grade", "first", "last", "below", "above"] []
  g__law_rails_rows : mg "_law_rails_rows" = some (.ref (He.fAd K ("_law_rails_rows", none)))
  fd_law : FuncData
  F_law : FunD K "law" "law" (defArgs (topS 106)) (defBody (topS 106)) (defScope (topS 106)) [] [] (He.fAd K ("law", none)) fd_law
  b_law : Binds K fd_law ["script"] []
  g_law : mg "law" = some (.ref (He.fAd K ("law", none)))
  cl_Kind : Cls K (He.ga K "Kind")
  g_Kind : mg "Kind" = some (.ref (He.ga K "Kind"))
  mk_Kind : Mk K (He.ga K "Kind") (He.fAd K ("Kind", some "__init__"))
  cl_Kit : Cls K (He.ga K "Kit")
  g_Kit : mg "Kit" = some (.ref (He.ga K "Kit"))
  mk_Kit : Mk K (He.ga K "Kit") (He.fAd K ("Kit", some "__init__"))
  cl_Word : Cls K (He.ga K "Word")
  g_Word : mg "Word" = some (.ref (He.ga K "Word"))
  mk_Word : Mk K (He.ga K "Word") (He.fAd K ("Word", some "__init__"))
  cl_Deed : Cls K (He.ga K "Deed")
  g_Deed : mg "Deed" = some (.ref (He.ga K "Deed"))
  mk_Deed : Mk K (He.ga K "Deed") (He.fAd K ("Deed", some "__init__"))
  own_Deed : OwnEq K (He.ga K "Deed") (He.fAd K ("Deed", some "__eq__"))
  nm_kind : ∀ n, n < 13 → fnmF n ≠ "kind"
  n_abs : mg "abs" = none
  n_all : mg "all" = none
  n_bool : mg "bool" = none
  n_dict : mg "dict" = none
  n_enumerate : mg "enumerate" = none
  n_int : mg "int" = none
  n_isinstance : mg "isinstance" = none
  n_len : mg "len" = none
  n_list : mg "list" = none
  n_max : mg "max" = none
  n_min : mg "min" = none
  n_range : mg "range" = none
  n_repr : mg "repr" = none
  n_set : mg "set" = none
  n_sorted : mg "sorted" = none
  n_str : mg "str" = none
  n_sum : mg "sum" = none
  n_tuple : mg "tuple" = none
  n_zip : mg "zip" = none
  c_LETTERS : ∃ v u, mg "LETTERS" = some u ∧ RelV v u ∧ ∀ lv φ H, RV (GX P w K) lv φ H c_LETTERS v
  c_SIGNS : ∃ v u, mg "SIGNS" = some u ∧ RelV v u ∧ ∀ lv φ H, RV (GX P w K) lv φ H c_SIGNS v
  c_MOST_SIGNS : ∃ v u, mg "MOST_SIGNS" = some u ∧ RelV v u ∧ ∀ lv φ H, RV (GX P w K) lv φ H c_MOST_SIGNS v
  c_MOST_PIECES : ∃ v u, mg "MOST_PIECES" = some u ∧ RelV v u ∧ ∀ lv φ H, RV (GX P w K) lv φ H c_MOST_PIECES v
  c_MOST_JOINTS : ∃ v u, mg "MOST_JOINTS" = some u ∧ RelV v u ∧ ∀ lv φ H, RV (GX P w K) lv φ H c_MOST_JOINTS v
  c_MOST_ROPES : ∃ v u, mg "MOST_ROPES" = some u ∧ RelV v u ∧ ∀ lv φ H, RV (GX P w K) lv φ H c_MOST_ROPES v
  c_MOST_KINDS : ∃ v u, mg "MOST_KINDS" = some u ∧ RelV v u ∧ ∀ lv φ H, RV (GX P w K) lv φ H c_MOST_KINDS v
  c_MOST_LONG : ∃ v u, mg "MOST_LONG" = some u ∧ RelV v u ∧ ∀ lv φ H, RV (GX P w K) lv φ H c_MOST_LONG v
  c_GRADES : ∃ v u, mg "GRADES" = some u ∧ RelV v u ∧ ∀ lv φ H, RV (GX P w K) lv φ H c_GRADES v
  c_JOINT_PARTINGS : ∃ v u, mg "JOINT_PARTINGS" = some u ∧ RelV v u ∧ ∀ lv φ H, RV (GX P w K) lv φ H c_JOINT_PARTINGS v
  c_JOINT_CUTS : ∃ v u, mg "JOINT_CUTS" = some u ∧ RelV v u ∧ ∀ lv φ H, RV (GX P w K) lv φ H c_JOINT_CUTS v
  c_JOINT_STEPS : ∃ v u, mg "JOINT_STEPS" = some u ∧ RelV v u ∧ ∀ lv φ H, RV (GX P w K) lv φ H c_JOINT_STEPS v
  c_JOINT_JOINS : ∃ v u, mg "JOINT_JOINS" = some u ∧ RelV v u ∧ ∀ lv φ H, RV (GX P w K) lv φ H c_JOINT_JOINS v
  is_Deed : ∀ t b, kt_Deed t = some b → PySem.W.kitOne K (t.val (GX P w K)) (.ref (He.ga K "Deed")) = some b
  is_Kind : ∀ t b, kt_Kind t = some b → PySem.W.kitOne K (t.val (GX P w K)) (.ref (He.ga K "Kind")) = some b
  is_Kit : ∀ t b, kt_Kit t = some b → PySem.W.kitOne K (t.val (GX P w K)) (.ref (He.ga K "Kit")) = some b
  is_Word : ∀ t b, kt_Word t = some b → PySem.W.kitOne K (t.val (GX P w K)) (.ref (He.ga K "Word")) = some b
  is_bool : ∀ t b, kt_bool t = some b → PySem.W.kitOne K (t.val (GX P w K)) (.type "bool") = some b
  is_int : ∀ t b, kt_int t = some b → PySem.W.kitOne K (t.val (GX P w K)) (.type "int") = some b
  is_list_tuple : ∀ t b, kt_list_tuple t = some b → PySem.W.kitAny K (t.val (GX P w K)) [.type "list", .type "tuple"] = some b
  is_str : ∀ t b, kt_str t = some b → PySem.W.kitOne K (t.val (GX P w K)) (.type "str") = some b
section
variable {P : Program} {w : World} {K : PySem.W.Frag} {mg : Str → Option Value} {base : Heap}
theorem sc_is_integer : FnScope ["value"] ["value"] (defScope (topS 5)) := ⟨rfl, rfl, rfl, by decide +kernel, rfl, by decide +kernel, by decide +kernel⟩
theorem ok_is_integer (W : WF P w K mg) : FnOk P w K mg base CX0 1 (He.fAd K ("is_integer", none)) W.fd_is_integer ["value"] (spM (GX P w K) 1 mf_is_integer) := by
  have S := sc_is_integer
  refine fn_okM (N := ["value"]) (b := m_is_integer) W.F_is_integer S fun cdv A outer s H E hr => PSs.nox ?_
  conv in (occs := *) defScope (topS 5) => whnf
  conv in (occs := *) defBody (topS 5) => whnf
  conv at hr in (occs := *) defScope (topS 5) => whnf
  exact ss_one (s_ret (s_and (s_isi W.facts rfl rfl W.n_isinstance (sv 0) (pe_bltn (v := .ty "int") (u := .type "int") (by rfl) W.n_int (by rfl) (by rfl)) (.ty _) W.is_int) (s_one (s_not (s_isi W.facts rfl rfl W.n_isinstance (sv 0) (pe_bltn (v := .ty "bool") (u := .type "bool") (by rfl) W.n_bool (by rfl) (by rfl)) (.ty _) W.is_bool)))))
theorem sc_is_between : FnScope ["value", "least", "most"] ["value", "least", "most"] (defScope (topS 6)) := ⟨rfl, rfl, rfl, by decide +kernel, rfl, by decide +kernel, by decide +kernel⟩
theorem ok_is_between (W : WF P w K mg) : FnOk P w K mg base CX0 2 (He.fAd K ("is_between", none)) W.fd_is_between ["value", "least", "most"] (spM (GX P w K) 3 mf_is_between) := by
  have S := sc_is_between
  refine fn_okM (N := ["value", "least", "most"]) (b := m_is_between) W.F_is_between S fun cdv A outer s H E hr => PSs.nox ?_
  conv in (occs := *) defScope (topS 6) => whnf
  conv in (occs := *) defBody (topS 6) => whnf
  conv at hr in (occs := *) defScope (topS 6) => whnf
  exact ss_one (s_ret (s_and (s_callP (fn_okP (ok_is_integer W)) (hr.mono (by decide)) rfl W.g_is_integer W.F_is_integer.kp W.b_is_integer .nil (by intro _ _ _; simp only [RVs]) (ac (sv 0) (a_nil)) pass0) (s_one (s_chn (cmp_ok rfl (r65 hr)) .le .le (sv 1) (sv 0) (sv 2) rfl))))
theorem sc_is_name : FnScope ["value", "sign"] ["value"] (defScope (topS 7)) := ⟨rfl, rfl, rfl, by decide +kernel, rfl, by decide +kernel, by decide +kernel⟩
theorem ok_is_name (W : WF P w K mg) : FnOk P w K mg base CX0 1 (He.fAd K ("is_name", none)) W.fd_is_name ["value"] (spM (GX P w K) 1 mf_is_name) := by
  have S := sc_is_name
  refine fn_okM (N := ["value", "sign"]) (b := m_is_name) W.F_is_name S fun cdv A outer s H E hr => PSs.nox ?_
  conv in (occs := *) defScope (topS 7) => whnf
  conv in (occs := *) defBody (topS 7) => whnf
  conv at hr in (occs := *) defScope (topS 7) => whnf
  exact ss_cons (s_ifS (tor (t_not (t_truth rfl (s_isi W.facts rfl rfl W.n_isinstance (sv 0) (pe_bltn (v := .ty "str") (u := .type "str") (by rfl) W.n_str (by rfl) (by rfl)) (.ty _) W.is_str) (by intro _; rfl))) (t_or (t_not (t_chn (cmp_ok rfl (r65 hr)) .le .le (s_int) (s_callB b_len call_lenA rfl W.n_len rfl (ac (sv 0) (a_nil))) (s_glob rfl (W.c_MOST_SIGNS.choose_spec.choose_spec.1) (W.c_MOST_SIGNS.choose_spec.choose_spec.2.1) (W.c_MOST_SIGNS.choose_spec.choose_spec.2.2) rfl) rfl)) (t_or1 (t_cmp (cmp_ok rfl (r65 hr)) .notin (s_ix rfl (sv 0) (s_int) (by intro _ _; rfl)) (s_glob rfl (W.c_LETTERS.choose_spec.choose_spec.1) (W.c_LETTERS.choose_spec.choose_spec.2.1) (W.c_LETTERS.choose_spec.choose_spec.2.2) rfl) rfl)))) (ss_one (s_ret (s_bl))) (ss_nil)) (ss_one (s_ret (s_callB b_all (cr_all rfl) rfl W.n_all rfl (ac (s_lc rfl S.nd (i_seq rfl (sv 0)) (own := [("sign", 1)]) (blkOf (by kernel_rfl)) (by decide) (fun _ _ _ _ _ => gn 1 S.nd) (fun _ _ _ _ _ => pts_yes) (fun _ _ _ _ _ => s_cmp (cmp_ok rfl (r65 hr)) .isin (sv 1) (s_glob rfl (W.c_SIGNS.choose_spec.choose_spec.1) (W.c_SIGNS.choose_spec.choose_spec.2.1) (W.c_SIGNS.choose_spec.choose_spec.2.2) rfl) rfl)) (a_nil)))))
theorem sc_is_listed : FnScope ["value"] ["value"] (defScope (topS 8)) := ⟨rfl, rfl, rfl, by decide +kernel, rfl, by decide +kernel, by decide +kernel⟩
theorem ok_is_listed (W : WF P w K mg) : FnOk P w K mg base CX0 1 (He.fAd K ("is_listed", none)) W.fd_is_listed ["value"] (spM (GX P w K) 1 mf_is_listed) := by
  have S := sc_is_listed
  refine fn_okM (N := ["value"]) (b := m_is_listed) W.F_is_listed S fun cdv A outer s H E hr => PSs.nox ?_
  conv in (occs := *) defScope (topS 8) => whnf
  conv in (occs := *) defBody (topS 8) => whnf
  conv at hr in (occs := *) defScope (topS 8) => whnf
  exact ss_one (s_ret (s_isiT W.facts rfl rfl W.n_isinstance (sv 0) (pa_cons (pe_bltn (v := .ty "list") (u := .type "list") (by rfl) W.n_list (by rfl) (by rfl)) (pa_cons (pe_bltn (v := .ty "tuple") (u := .type "tuple") (by rfl) W.n_tuple (by rfl) (by rfl)) (pa_nil) (by rfl)) (by rfl)) (.cons (.ty _) (.cons (.ty _) (.nil))) (by decide) W.is_list_tuple))
theorem sc_ascends : FnScope ["some", "one", "other"] ["some"] (defScope (topS 9)) := ⟨rfl, rfl, rfl, by decide +kernel, rfl, by decide +kernel, by decide +kernel⟩
theorem ok_ascends (W : WF P w K mg) : FnOk P w K mg base CX0 1 (He.fAd K ("ascends", none)) W.fd_ascends ["some"] (spM (GX P w K) 1 mf_ascends) := by
  have S := sc_ascends
  refine fn_okM (N := ["some", "one", "other"]) (b := m_ascends) W.F_ascends S fun cdv A outer s H E hr => PSs.nox ?_
  conv in (occs := *) defScope (topS 9) => whnf
  conv in (occs := *) defBody (topS 9) => whnf
  conv at hr in (occs := *) defScope (topS 9) => whnf
  exact ss_one (s_ret (s_callB b_all (cr_all rfl) rfl W.n_all rfl (ac (s_lc rfl S.nd (i_zip2 rfl rfl W.n_zip (sv 0) (s_sl rfl (sv 0) (o_some (s_int)) (o_none))) (own := [("one", 1), ("other", 2)]) (blkOf (by kernel_rfl)) (by decide) (fun _ _ _ _ _ => g_seq rfl rfl (gs_cons (gn 1 S.nd) (gs_cons (gn 2 S.nd) (gs_nil)))) (fun _ _ _ _ _ => pts_yes) (fun _ _ _ _ _ => s_cmp (cmp_ok rfl (r65 hr)) .lt (sv 1) (sv 2) rfl)) (a_nil))))
theorem sc_are_unlike : FnScope ["some"] ["some"] (defScope (topS 10)) := ⟨rfl, rfl, rfl, by decide +kernel, rfl, by decide +kernel, by decide +kernel⟩
theorem ok_are_unlike (W : WF P w K mg) : FnOk P w K mg base CX0 2 (He.fAd K ("are_unlike", none)) W.fd_are_unlike ["some"] (spM (GX P w K) 1 mf_are_unlike) := by
  have S := sc_are_unlike
  refine fn_okM (N := ["some"]) (b := m_are_unlike) W.F_are_unlike S fun cdv A outer s H E hr => PSs.nox ?_
  conv in (occs := *) defScope (topS 10) => whnf
  conv in (occs := *) defBody (topS 10) => whnf
  conv at hr in (occs := *) defScope (topS 10) => whnf
  exact ss_one (s_ret (s_callP (fn_okP (ok_ascends W)) (hr.mono (by decide)) rfl W.g_ascends W.F_ascends.kp W.b_ascends .nil (by intro _ _ _; simp only [RVs]) (ac (s_callB b_sort cr_sortS rfl W.n_sorted rfl (ac (sv 0) (a_nil))) (a_nil)) pass0))
theorem sc_are_names : FnScope ["value", "least", "most", "one"] ["value", "least", "most"] (defScope (topS 11)) := ⟨rfl, rfl, rfl, by decide +kernel, rfl, by decide +kernel, by decide +kernel⟩
theorem ok_are_names (W : WF P w K mg) : FnOk P w K mg base CX0 3 (He.fAd K ("are_names", none)) W.fd_are_names ["value", "least", "most"] (spM (GX P w K) 3 mf_are_names) := by
  have S := sc_are_names
  refine fn_okM (N := ["value", "least", "most", "one"]) (b := m_are_names) W.F_are_names S fun cdv A outer s H E hr => PSs.nox ?_
  conv in (occs := *) defScope (topS 11) => whnf
  conv in (occs := *) defBody (topS 11) => whnf
  conv at hr in (occs := *) defScope (topS 11) => whnf
  exact ss_cons (s_ifS (tor (t_not (t_truth rfl (s_callP (fn_okP (ok_is_listed W)) (hr.mono (by decide)) rfl W.g_is_listed W.F_is_listed.kp W.b_is_listed .nil (by intro _ _ _; simp only [RVs]) (ac (sv 0) (a_nil)) pass0) (by intro _; rfl))) (t_or1 (t_not (t_chn (cmp_ok rfl (r65 hr)) .le .le (sv 1) (s_callB b_len call_lenA rfl W.n_len rfl (ac (sv 0) (a_nil))) (sv 2) rfl)))) (ss_one (s_ret (s_bl))) (ss_nil)) (ss_one (s_ret (s_and (s_callB b_all (cr_all rfl) rfl W.n_all rfl (ac (s_lc rfl S.nd (i_seq rfl (sv 0)) (own := [("one", 3)]) (blkOf (by kernel_rfl)) (by decide) (fun _ _ _ _ _ => gn 3 S.nd) (fun _ _ _ _ _ => pts_yes) (fun _ _ _ _ _ => s_callP (fn_okP (ok_is_name W)) (hr.mono (by decide)) rfl W.g_is_name W.F_is_name.kp W.b_is_name .nil (by intro _ _ _; simp only [RVs]) (ac (sv 3) (a_nil)) pass0)) (a_nil))) (s_one (s_callP (fn_okP (ok_are_unlike W)) (hr.mono (by decide)) rfl W.g_are_unlike W.F_are_unlike.kp W.b_are_unlike .nil (by intro _ _ _; simp only [RVs]) (ac (sv 0) (a_nil)) pass0)))))
theorem sc_blocks_of : FnScope ["parting"] ["parting"] (defScope (topS 23)) := ⟨rfl, rfl, rfl, by decide +kernel, rfl, by decide +kernel, by decide +kernel⟩
theorem ok_blocks_of (W : WF P w K mg) : FnOk P w K mg base CX0 1 (He.fAd K ("blocks_of", none)) W.fd_blocks_of ["parting"] (spM (GX P w K) 1 mf_blocks_of) := by
  have S := sc_blocks_of
  refine fn_okM (N := ["parting"]) (b := m_blocks_of) W.F_blocks_of S fun cdv A outer s H E hr => PSs.nox ?_
  conv in (occs := *) defScope (topS 23) => whnf
  conv in (occs := *) defBody (topS 23) => whnf
  conv at hr in (occs := *) defScope (topS 23) => whnf
  exact ss_one (s_ret (s_bin rfl .add (s_maxDf rfl rfl hr.units rfl W.n_max (sv 0) (s_neg (s_int))) (s_int)))
theorem sc_told_by : FnScope ["labels", "numbers", "label"] ["labels"] (defScope (topS 24)) := ⟨rfl, rfl, rfl, by decide +kernel, rfl, by decide +kernel, by decide +kernel⟩
theorem ok_told_by (W : WF P w K mg) : FnOk P w K mg base CX0 1 (He.fAd K ("told_by", none)) W.fd_told_by ["labels"] (spM (GX P w K) 1 mf_told_by) := by
  have S := sc_told_by
  refine fn_okM (N := ["labels", "numbers", "label"]) (b := m_told_by) W.F_told_by S fun cdv A outer s H E hr => PSs.nox ?_
  conv in (occs := *) defScope (topS 24) => whnf
  conv in (occs := *) defBody (topS 24) => whnf
  conv at hr in (occs := *) defScope (topS 24) => whnf
  exact ss_cons (s_set S.nd rfl (by first | exact .inl rfl | exact .inr rfl) (s_dnew)) (ss_one (s_ret (s_callTy b_tupleX call_tupleX rfl W.n_tuple rfl (ac (s_lc rfl S.nd (i_seq rfl (sv 0)) (own := [("label", 2)]) (blkOf (by kernel_rfl)) (by decide) (fun _ _ _ _ _ => gn 2 S.nd) (fun _ _ _ _ _ => pts_yes) (fun _ _ _ _ _ => s_dsd (sv 1) (sv 2) (s_callB b_len call_lenA rfl W.n_len rfl (ac (sv 1) (a_nil))) ⟨rfl, rfl, rfl, rfl⟩)) (a_nil)))))
theorem sc_is_over : FnScope ["one", "other", "found", "mine", "its"] ["one", "other"] (defScope (topS 25)) := ⟨rfl, rfl, rfl, by decide +kernel, rfl, by decide +kernel, by decide +kernel⟩
theorem ok_is_over (W : WF P w K mg) : FnOk P w K mg base CX0 1 (He.fAd K ("is_over", none)) W.fd_is_over ["one", "other"] (spM (GX P w K) 2 mf_is_over) := by
  have S := sc_is_over
  refine fn_okM (N := ["one", "other", "found", "mine", "its"]) (b := m_is_over) W.F_is_over S fun cdv A outer s H E hr => PSs.nox ?_
  conv in (occs := *) defScope (topS 25) => whnf
  conv in (occs := *) defBody (topS 25) => whnf
  conv at hr in (occs := *) defScope (topS 25) => whnf
  exact ss_cons (s_set S.nd rfl (by first | exact .inl rfl | exact .inr rfl) (s_dnew)) (ss_one (s_ret (s_callB b_all (cr_all rfl) rfl W.n_all rfl (ac (s_lc rfl S.nd (i_zip2 rfl rfl W.n_zip (sv 0) (sv 1)) (own := [("mine", 3), ("its", 4)]) (blkOf (by kernel_rfl)) (by decide) (fun _ _ _ _ _ => g_seq rfl rfl (gs_cons (gn 3 S.nd) (gs_cons (gn 4 S.nd) (gs_nil)))) (fun _ _ _ _ _ => pts_yes) (fun _ _ _ _ _ => s_cmp (cmp_ok rfl (r65 hr)) .eq (s_dsd (sv 2) (sv 4) (sv 3) ⟨rfl, rfl, rfl, rfl⟩) (sv 3) rfl)) (a_nil)))))
theorem sc_partings_of : FnScope ["many", "found", "turn", "one", "block"] ["many"] (defScope (topS 26)) := ⟨rfl, rfl, rfl, by decide +kernel, rfl, by decide +kernel, by decide +kernel⟩
theorem ok_partings_of (W : WF P w K mg) : FnOk P w K mg base CX0 2 (He.fAd K ("partings_of", none)) W.fd_partings_of ["many"] (spM (GX P w K) 1 mf_partings_of) := by
  have S := sc_partings_of
  refine fn_okM (N := ["many", "found", "turn", "one", "block"]) (b := m_partings_of) W.F_partings_of S fun cdv A outer s H E hr => PSs.nox ?_
  conv in (occs := *) defScope (topS 26) => whnf
  conv in (occs := *) defBody (topS 26) => whnf
  conv at hr in (occs := *) defScope (topS 26) => whnf
  exact ss_cons (s_set S.nd rfl (by first | exact .inl rfl | exact .inr rfl) (s_lst (ac (s_tup (a_nil)) (a_nil)))) (ss_cons (s_for PassesOwn.never rfl (i_rng1 rfl W.n_range (sv 0)) (gn 2 S.nd) (ss_one (s_setLc2 rfl S.nd rfl rfl (sw_true rfl rfl rfl rfl) (i_seq rfl (sv 1)) (own := [("one", 3), ("block", 4)]) (vs1 := [4]) (blkOf (by kernel_rfl)) (by decide) (by decide) (by decide) (fun _ _ _ _ _ => gn 3 S.nd) (fun _ _ _ _ _ => pts_yes) (fun _ _ _ _ _ => i_rng1 rfl W.n_range (s_bin rfl .add (s_callP (fn_okP (ok_blocks_of W)) (hr.mono (by decide)) rfl W.g_blocks_of W.F_blocks_of.kp W.b_blocks_of .nil (by intro _ _ _; simp only [RVs]) (ac (sv 3) (a_nil)) pass0) (s_int))) (fun _ _ _ _ _ => gn 4 S.nd) (fun _ _ _ _ _ => pts_yes) (fun _ _ _ _ _ => s_tup (a_star rfl (sv 3) (ac (sv 4) (a_nil)) rfl))))) (ss_one (s_ret (s_callTy b_tupleX call_tupleX rfl W.n_tuple rfl (ac (sv 1) (a_nil))))))
theorem sc_finest : FnScope ["many"] ["many"] (defScope (topS 27)) := ⟨rfl, rfl, rfl, by decide +kernel, rfl, by decide +kernel, by decide +kernel⟩
theorem ok_finest (W : WF P w K mg) : FnOk P w K mg base CX0 1 (He.fAd K ("finest", none)) W.fd_finest ["many"] (spM (GX P w K) 1 mf_finest) := by
  have S := sc_finest
  refine fn_okM (N := ["many"]) (b := m_finest) W.F_finest S fun cdv A outer s H E hr => PSs.nox ?_
  conv in (occs := *) defScope (topS 27) => whnf
  conv in (occs := *) defBody (topS 27) => whnf
  conv at hr in (occs := *) defScope (topS 27) => whnf
  exact ss_one (s_ret (s_tupRg rfl rfl W.n_tuple rfl W.n_range (sv 0)))
theorem sc_passing_in : FnScope ["ropes", "grouping", "one", "other"] ["ropes", "grouping"] (defScope (topS 29)) := ⟨rfl, rfl, rfl, by decide +kernel, rfl, by decide +kernel, by decide +kernel⟩
theorem ok_passing_in (W : WF P w K mg) : FnOk P w K mg base CX0 1 (He.fAd K ("passing_in", none)) W.fd_passing_in ["ropes", "grouping"] (spM (GX P w K) 2 mf_passing_in) := by
  have S := sc_passing_in
  refine fn_okM (N := ["ropes", "grouping", "one", "other"]) (b := m_passing_in) W.F_passing_in S fun cdv A outer s H E hr => PSs.nox ?_
  conv in (occs := *) defScope (topS 29) => whnf
  conv in (occs := *) defBody (topS 29) => whnf
  conv at hr in (occs := *) defScope (topS 29) => whnf
  exact ss_one (s_ret (s_callB b_len call_lenA rfl W.n_len rfl (ac (s_lc rfl S.nd (i_seq rfl (sv 0)) (own := [("one", 2), ("other", 3)]) (blkOf (by kernel_rfl)) (by decide) (fun _ _ _ _ _ => g_seq rfl rfl (gs_cons (gn 2 S.nd) (gs_cons (gn 3 S.nd) (gs_nil)))) (fun _ _ _ _ _ => pts_one (t_cmp (cmp_ok rfl (r65 hr)) .ne (s_ix rfl (sv 1) (sv 2) (by intro _ _; rfl)) (s_ix rfl (sv 1) (sv 3) (by intro _ _; rfl)) rfl)) (fun _ _ _ _ _ => s_int)) (a_nil))))
theorem sc_is_rope : FnScope ["value", "pieces", "one"] ["value", "pieces"] (defScope (topS 34)) := ⟨rfl, rfl, rfl, by decide +kernel, rfl, by decide +kernel, by decide +kernel⟩
theorem ok_is_rope (W : WF P w K mg) : FnOk P w K mg base CX0 4 (He.fAd K ("is_rope", none)) W.fd_is_rope ["value", "pieces"] (spM (GX P w K) 2 mf_is_rope) := by
  have S := sc_is_rope
  refine fn_okM (N := ["value", "pieces", "one"]) (b := m_is_rope) W.F_is_rope S fun cdv A outer s H E hr => PSs.nox ?_
  conv in (occs := *) defScope (topS 34) => whnf
  conv in (occs := *) defBody (topS 34) => whnf
  conv at hr in (occs := *) defScope (topS 34) => whnf
  exact ss_one (s_ret (s_and (s_callP (fn_okP (ok_is_listed W)) (hr.mono (by decide)) rfl W.g_is_listed W.F_is_listed.kp W.b_is_listed .nil (by intro _ _ _; simp only [RVs]) (ac (sv 0) (a_nil)) pass0) (s_and (s_cmp (cmp_ok rfl (r65 hr)) .eq (s_callB b_len call_lenA rfl W.n_len rfl (ac (sv 0) (a_nil))) (s_int) rfl) (s_and (s_callP (fn_okP (ok_are_names W)) (hr.mono (by decide)) rfl W.g_are_names W.F_are_names.kp W.b_are_names .nil (by intro _ _ _; simp only [RVs]) (ac (sv 0) (ac (s_int) (ac (s_int) (a_nil)))) pass0) (s_one (s_callB b_all (cr_all rfl) rfl W.n_all rfl (ac (s_lc rfl S.nd (i_seq rfl (sv 0)) (own := [("one", 2)]) (blkOf (by kernel_rfl)) (by decide) (fun _ _ _ _ _ => gn 2 S.nd) (fun _ _ _ _ _ => pts_yes) (fun _ _ _ _ _ => s_cmp (cmp_ok rfl (r65 hr)) .isin (sv 2) (sv 1) rfl)) (a_nil))))))))
theorem sc_are_ropes : FnScope ["value", "pieces", "one"] ["value", "pieces"] (defScope (topS 35)) := ⟨rfl, rfl, rfl, by decide +kernel, rfl, by decide +kernel, by decide +kernel⟩
theorem ok_are_ropes (W : WF P w K mg) : FnOk P w K mg base CX0 5 (He.fAd K ("are_ropes", none)) W.fd_are_ropes ["value", "pieces"] (spM (GX P w K) 2 mf_are_ropes) := by
  have S := sc_are_ropes
  refine fn_okM (N := ["value", "pieces", "one"]) (b := m_are_ropes) W.F_are_ropes S fun cdv A outer s H E hr => PSs.nox ?_
  conv in (occs := *) defScope (topS 35) => whnf
  conv in (occs := *) defBody (topS 35) => whnf
  conv at hr in (occs := *) defScope (topS 35) => whnf
  exact ss_one (s_ret (s_and (s_callP (fn_okP (ok_is_listed W)) (hr.mono (by decide)) rfl W.g_is_listed W.F_is_listed.kp W.b_is_listed .nil (by intro _ _ _; simp only [RVs]) (ac (sv 0) (a_nil)) pass0) (s_and (s_cmp (cmp_ok rfl (r65 hr)) .le (s_callB b_len call_lenA rfl W.n_len rfl (ac (sv 0) (a_nil))) (s_glob rfl (W.c_MOST_ROPES.choose_spec.choose_spec.1) (W.c_MOST_ROPES.choose_spec.choose_spec.2.1) (W.c_MOST_ROPES.choose_spec.choose_spec.2.2) rfl) rfl) (s_one (s_callB b_all (cr_all rfl) rfl W.n_all rfl (ac (s_lc rfl S.nd (i_seq rfl (sv 0)) (own := [("one", 2)]) (blkOf (by kernel_rfl)) (by decide) (fun _ _ _ _ _ => gn 2 S.nd) (fun _ _ _ _ _ => pts_yes) (fun _ _ _ _ _ => s_callP (fn_okP (ok_is_rope W)) (hr.mono (by decide)) rfl W.g_is_rope W.F_is_rope.kp W.b_is_rope .nil (by intro _ _ _; simp only [RVs]) (ac (sv 2) (ac (sv 1) (a_nil))) pass0)) (a_nil)))))))
theorem sc_are_joints : FnScope ["value", "pieces", "least", "most", "one"] ["value", "pieces", "least", "most"] (defScope (topS 36)) := ⟨rfl, rfl, rfl, by decide +kernel, rfl, by decide +kernel, by decide +kernel⟩
theorem ok_are_joints (W : WF P w K mg) : FnOk P w K mg base CX0 4 (He.fAd K ("are_joints", none)) W.fd_are_joints ["value", "pieces", "least", "most"] (spM (GX P w K) 4 mf_are_joints) := by
  have S := sc_are_joints
  refine fn_okM (N := ["value", "pieces", "least", "most", "one"]) (b := m_are_joints) W.F_are_joints S fun cdv A outer s H E hr => PSs.nox ?_
  conv in (occs := *) defScope (topS 36) => whnf
  conv in (occs := *) defBody (topS 36) => whnf
  conv at hr in (occs := *) defScope (topS 36) => whnf
  exact ss_one (s_ret (s_and (s_callP (fn_okP (ok_are_names W)) (hr.mono (by decide)) rfl W.g_are_names W.F_are_names.kp W.b_are_names .nil (by intro _ _ _; simp only [RVs]) (ac (sv 0) (ac (sv 2) (ac (sv 3) (a_nil)))) pass0) (s_one (s_callB b_all (cr_all rfl) rfl W.n_all rfl (ac (s_lc rfl S.nd (i_seq rfl (sv 0)) (own := [("one", 4)]) (blkOf (by kernel_rfl)) (by decide) (fun _ _ _ _ _ => gn 4 S.nd) (fun _ _ _ _ _ => pts_yes) (fun _ _ _ _ _ => s_cmp (cmp_ok rfl (r65 hr)) .isin (sv 4) (sv 1) rfl)) (a_nil))))))
theorem sc_Kind___init__ : FnScope ["self", "name", "pieces", "low", "high", "ropes", "one"] ["self", "name", "pieces", "low", "high", "ropes"] (defScope (inS (topS 37) 0)) := ⟨rfl, rfl, rfl, by decide +kernel, rfl, by decide +kernel, by decide +kernel⟩
theorem ok_Kind___init__ (W : WF P w K mg) : FnOk P w K mg base CX0 6 (He.fAd K ("Kind", some "__init__")) W.fd_Kind___init__ ["self", "name", "pieces", "low", "high", "ropes"] (spM (GX P w K) 6 mf_Kind___init__) := by
  have S := sc_Kind___init__
  refine fn_okM (N := ["self", "name", "pieces", "low", "high", "ropes", "one"]) (b := m_Kind___init__) W.F_Kind___init__ S fun cdv A outer s H E hr => PSs.nox ?_
  conv in (occs := *) defScope (inS (topS 37) 0) => whnf
  conv in (occs := *) defBody (inS (topS 37) 0) => whnf
  conv at hr in (occs := *) defScope (inS (topS 37) 0) => whnf
  exact ss_cons (s_ifS (t_not (t_truth rfl (s_callP (fn_okP (ok_is_name W)) (hr.mono (by decide)) rfl W.g_is_name W.F_is_name.kp W.b_is_name .nil (by intro _ _ _; simp only [RVs]) (ac (sv 1) (a_nil)) pass0) (by intro _; rfl))) (ss_never) (ss_nil)) (ss_cons (s_ifS (t_not (t_truth rfl (s_callP (fn_okP (ok_are_names W)) (hr.mono (by decide)) rfl W.g_are_names W.F_are_names.kp W.b_are_names .nil (by intro _ _ _; simp only [RVs]) (ac (sv 2) (ac (s_int) (ac (s_glob rfl (W.c_MOST_PIECES.choose_spec.choose_spec.1) (W.c_MOST_PIECES.choose_spec.choose_spec.2.1) (W.c_MOST_PIECES.choose_spec.choose_spec.2.2) rfl) (a_nil)))) pass0) (by intro _; rfl))) (ss_never) (ss_nil)) (ss_cons (s_ifS (t_not (t_truth rfl (s_callP (fn_okP (ok_are_joints W)) (hr.mono (by decide)) rfl W.g_are_joints W.F_are_joints.kp W.b_are_joints .nil (by intro _ _ _; simp only [RVs]) (ac (sv 3) (ac (sv 2) (ac (s_int) (ac (s_glob rfl (W.c_MOST_JOINTS.choose_spec.choose_spec.1) (W.c_MOST_JOINTS.choose_spec.choose_spec.2.1) (W.c_MOST_JOINTS.choose_spec.choose_spec.2.2) rfl) (a_nil))))) pass0) (by intro _; rfl))) (ss_never) (ss_nil)) (ss_cons (s_ifS (t_not (t_truth rfl (s_callP (fn_okP (ok_are_joints W)) (hr.mono (by decide)) rfl W.g_are_joints W.F_are_joints.kp W.b_are_joints .nil (by intro _ _ _; simp only [RVs]) (ac (sv 4) (ac (sv 2) (ac (s_callB b_len call_lenA rfl W.n_len rfl (ac (sv 3) (a_nil))) (ac (s_callB b_len call_lenA rfl W.n_len rfl (ac (sv 3) (a_nil))) (a_nil))))) pass0) (by intro _; rfl))) (ss_never) (ss_nil)) (ss_cons (s_ifS (t_not (t_truth rfl (s_callP (fn_okP (ok_are_ropes W)) (hr.mono (by decide)) rfl W.g_are_ropes W.F_are_ropes.kp W.b_are_ropes .nil (by intro _ _ _; simp only [RVs]) (ac (sv 5) (ac (sv 2) (a_nil))) pass0) (by intro _; rfl))) (ss_never) (ss_nil)) (ss_cons (s_fldS W.facts rfl (n := 0) (show 0 < 13 by decide) (sv 0) (sv 1)) (ss_cons (s_fldS W.facts rfl (n := 1) (show 1 < 13 by decide) (sv 0) (s_callTy b_tupleX call_tupleX rfl W.n_tuple rfl (ac (sv 2) (a_nil)))) (ss_cons (s_fldS W.facts rfl (n := 2) (show 2 < 13 by decide) (sv 0) (s_callTy b_tupleX call_tupleX rfl W.n_tuple rfl (ac (sv 3) (a_nil)))) (ss_cons (s_fldS W.facts rfl (n := 3) (show 3 < 13 by decide) (sv 0) (s_callTy b_tupleX call_tupleX rfl W.n_tuple rfl (ac (sv 4) (a_nil)))) (ss_one (s_fldS W.facts rfl (n := 4) (show 4 < 13 by decide) (sv 0) (s_callTy b_tupleX call_tupleX rfl W.n_tuple rfl (ac (s_lc rfl S.nd (i_seq rfl (sv 5)) (own := [("one", 6)]) (blkOf (by kernel_rfl)) (by decide) (fun _ _ _ _ _ => gn 6 S.nd) (fun _ _ _ _ _ => pts_yes) (fun _ _ _ _ _ => s_callTy b_tupleX call_tupleX rfl W.n_tuple rfl (ac (sv 6) (a_nil)))) (a_nil)))))))))))))
theorem sc_numbers_in : FnScope ["kind", "at", "piece"] ["kind"] (defScope (topS 38)) := ⟨rfl, rfl, rfl, by decide +kernel, rfl, by decide +kernel, by decide +kernel⟩
theorem ok_numbers_in (W : WF P w K mg) : FnOk P w K mg base CX0 1 (He.fAd K ("numbers_in", none)) W.fd_numbers_in ["kind"] (spM (GX P w K) 1 mf_numbers_in) := by
  have S := sc_numbers_in
  refine fn_okM (N := ["kind", "at", "piece"]) (b := m_numbers_in) W.F_numbers_in S fun cdv A outer s H E hr => PSs.nox ?_
  conv in (occs := *) defScope (topS 38) => whnf
  conv in (occs := *) defBody (topS 38) => whnf
  conv at hr in (occs := *) defScope (topS 38) => whnf
  exact ss_one (s_ret (s_dc rfl S.nd (i_enum rfl rfl W.n_enumerate (s_fld W.facts rfl (n := 1) (show 1 < 13 by decide) (sv 0) rfl)) (own := [("at", 1), ("piece", 2)]) (blkOf (by kernel_rfl)) (by decide) (fun _ _ _ _ _ => g_seq rfl rfl (gs_cons (gn 1 S.nd) (gs_cons (gn 2 S.nd) (gs_nil)))) (fun _ _ _ _ _ => pts_yes) (fun _ _ _ _ _ => sv 2) (fun _ _ _ _ _ => sv 1)))
theorem sc_pairs_in : FnScope ["kind", "numbers", "one", "other"] ["kind"] (defScope (topS 39)) := ⟨rfl, rfl, rfl, by decide +kernel, rfl, by decide +kernel, by decide +kernel⟩
theorem ok_pairs_in (W : WF P w K mg) : FnOk P w K mg base CX0 2 (He.fAd K ("pairs_in", none)) W.fd_pairs_in ["kind"] (spM (GX P w K) 1 mf_pairs_in) := by
  have S := sc_pairs_in
  refine fn_okM (N := ["kind", "numbers", "one", "other"]) (b := m_pairs_in) W.F_pairs_in S fun cdv A outer s H E hr => PSs.nox ?_
  conv in (occs := *) defScope (topS 39) => whnf
  conv in (occs := *) defBody (topS 39) => whnf
  conv at hr in (occs := *) defScope (topS 39) => whnf
  exact ss_cons (s_set S.nd rfl (by first | exact .inl rfl | exact .inr rfl) (s_callP (fn_okP (ok_numbers_in W)) (hr.mono (by decide)) rfl W.g_numbers_in W.F_numbers_in.kp W.b_numbers_in .nil (by intro _ _ _; simp only [RVs]) (ac (sv 0) (a_nil)) pass0)) (ss_one (s_ret (s_lc rfl S.nd (i_seq rfl (s_fld W.facts rfl (n := 4) (show 4 < 13 by decide) (sv 0) rfl)) (own := [("one", 2), ("other", 3)]) (blkOf (by kernel_rfl)) (by decide) (fun _ _ _ _ _ => g_seq rfl rfl (gs_cons (gn 2 S.nd) (gs_cons (gn 3 S.nd) (gs_nil)))) (fun _ _ _ _ _ => pts_yes) (fun _ _ _ _ _ => s_tup (ac (s_dix (r1 hr) (sv 1) (sv 2) (by intro _ _; rfl)) (ac (s_dix (r1 hr) (sv 1) (sv 3) (by intro _ _; rfl)) (a_nil)))))))
theorem sc_are_kinds : FnScope ["value", "joints", "one"] ["value", "joints"] (defScope (topS 43)) := ⟨rfl, rfl, rfl, by decide +kernel, rfl, by decide +kernel, by decide +kernel⟩
theorem ok_are_kinds (W : WF P w K mg) : FnOk P w K mg base CX0 3 (He.fAd K ("are_kinds", none)) W.fd_are_kinds ["value", "joints"] (spM (GX P w K) 2 mf_are_kinds) := by
  have S := sc_are_kinds
  refine fn_okM (N := ["value", "joints", "one"]) (b := m_are_kinds) W.F_are_kinds S fun cdv A outer s H E hr => PSs.nox ?_
  conv in (occs := *) defScope (topS 43) => whnf
  conv in (occs := *) defBody (topS 43) => whnf
  conv at hr in (occs := *) defScope (topS 43) => whnf
  exact ss_cons (s_ifS (tor (t_not (t_truth rfl (s_callP (fn_okP (ok_is_listed W)) (hr.mono (by decide)) rfl W.g_is_listed W.F_is_listed.kp W.b_is_listed .nil (by intro _ _ _; simp only [RVs]) (ac (sv 0) (a_nil)) pass0) (by intro _; rfl))) (t_or (t_not (t_chn (cmp_ok rfl (r65 hr)) .le .le (s_int) (s_callB b_len call_lenA rfl W.n_len rfl (ac (sv 0) (a_nil))) (s_glob rfl (W.c_MOST_KINDS.choose_spec.choose_spec.1) (W.c_MOST_KINDS.choose_spec.choose_spec.2.1) (W.c_MOST_KINDS.choose_spec.choose_spec.2.2) rfl) rfl)) (t_or1 (t_not (t_truth rfl (s_callB b_all (cr_all rfl) rfl W.n_all rfl (ac (s_lc rfl S.nd (i_seq rfl (sv 0)) (own := [("one", 2)]) (blkOf (by kernel_rfl)) (by decide) (fun _ _ _ _ _ => gn 2 S.nd) (fun _ _ _ _ _ => pts_yes) (fun _ _ _ _ _ => s_isi W.facts rfl rfl W.n_isinstance (sv 2) (pe_glob (v := .ref (He.ga K "Kind")) (by rfl) W.g_Kind (by rfl)) (.own _) W.is_Kind)) (a_nil))) (by intro _; rfl)))))) (ss_one (s_ret (s_bl))) (ss_nil)) (ss_one (s_ret (s_and (s_callB b_all (cr_all rfl) rfl W.n_all rfl (ac (s_lc rfl S.nd (i_seq rfl (sv 0)) (own := [("one", 2)]) (blkOf (by kernel_rfl)) (by decide) (fun _ _ _ _ _ => gn 2 S.nd) (fun _ _ _ _ _ => pts_yes) (fun _ _ _ _ _ => s_cmp (cmp_ok rfl (r65 hr)) .eq (s_callB b_len call_lenA rfl W.n_len rfl (ac (s_fld W.facts rfl (n := 2) (show 2 < 13 by decide) (sv 2) rfl) (a_nil))) (sv 1) rfl)) (a_nil))) (s_one (s_callP (fn_okP (ok_are_unlike W)) (hr.mono (by decide)) rfl W.g_are_unlike W.F_are_unlike.kp W.b_are_unlike .nil (by intro _ _ _; simp only [RVs]) (ac (s_lc rfl S.nd (i_seq rfl (sv 0)) (own := [("one", 2)]) (blkOf (by kernel_rfl)) (by decide) (fun _ _ _ _ _ => gn 2 S.nd) (fun _ _ _ _ _ => pts_yes) (fun _ _ _ _ _ => s_fld W.facts rfl (n := 0) (show 0 < 13 by decide) (sv 2) rfl)) (a_nil)) pass0)))))
theorem sc_Kit___init__ : FnScope ["self", "dimension", "joints", "kinds", "one"] ["self", "dimension", "joints", "kinds"] (defScope (inS (topS 44) 0)) := ⟨rfl, rfl, rfl, by decide +kernel, rfl, by decide +kernel, by decide +kernel⟩
theorem ok_Kit___init__ (W : WF P w K mg) : FnOk P w K mg base CX0 4 (He.fAd K ("Kit", some "__init__")) W.fd_Kit___init__ ["self", "dimension", "joints", "kinds"] (spM (GX P w K) 4 mf_Kit___init__) := by
  have S := sc_Kit___init__
  refine fn_okM (N := ["self", "dimension", "joints", "kinds", "one"]) (b := m_Kit___init__) W.F_Kit___init__ S fun cdv A outer s H E hr => PSs.nox ?_
  conv in (occs := *) defScope (inS (topS 44) 0) => whnf
  conv in (occs := *) defBody (inS (topS 44) 0) => whnf
  conv at hr in (occs := *) defScope (inS (topS 44) 0) => whnf
  exact ss_cons (s_ifS (t_not (t_truth rfl (s_callP (fn_okP (ok_is_between W)) (hr.mono (by decide)) rfl W.g_is_between W.F_is_between.kp W.b_is_between .nil (by intro _ _ _; simp only [RVs]) (ac (sv 1) (ac (s_int) (ac (s_bin rfl .sub (s_callB b_len call_lenA rfl W.n_len rfl (ac (s_glob rfl (W.c_GRADES.choose_spec.choose_spec.1) (W.c_GRADES.choose_spec.choose_spec.2.1) (W.c_GRADES.choose_spec.choose_spec.2.2) rfl) (a_nil))) (s_int)) (a_nil)))) pass0) (by intro _; rfl))) (ss_never) (ss_nil)) (ss_cons (s_ifS (t_not (t_truth rfl (s_callP (fn_okP (ok_is_between W)) (hr.mono (by decide)) rfl W.g_is_between W.F_is_between.kp W.b_is_between .nil (by intro _ _ _; simp only [RVs]) (ac (sv 2) (ac (s_int) (ac (s_glob rfl (W.c_MOST_JOINTS.choose_spec.choose_spec.1) (W.c_MOST_JOINTS.choose_spec.choose_spec.2.1) (W.c_MOST_JOINTS.choose_spec.choose_spec.2.2) rfl) (a_nil)))) pass0) (by intro _; rfl))) (ss_never) (ss_nil)) (ss_cons (s_ifS (t_not (t_truth rfl (s_callP (fn_okP (ok_are_kinds W)) (hr.mono (by decide)) rfl W.g_are_kinds W.F_are_kinds.kp W.b_are_kinds .nil (by intro _ _ _; simp only [RVs]) (ac (sv 3) (ac (sv 2) (a_nil))) pass0) (by intro _; rfl))) (ss_never) (ss_nil)) (ss_cons (s_fldS W.facts rfl (n := 5) (show 5 < 13 by decide) (sv 0) (sv 1)) (ss_cons (s_fldS W.facts rfl (n := 6) (show 6 < 13 by decide) (sv 0) (sv 2)) (ss_cons (s_fldS W.facts rfl (n := 7) (show 7 < 13 by decide) (sv 0) (s_callTy b_tupleX call_tupleX rfl W.n_tuple rfl (ac (sv 3) (a_nil)))) (ss_cons (s_fldS W.facts rfl (n := 8) (show 8 < 13 by decide) (sv 0) (s_ix rfl (s_glob rfl (W.c_GRADES.choose_spec.choose_spec.1) (W.c_GRADES.choose_spec.choose_spec.2.1) (W.c_GRADES.choose_spec.choose_spec.2.2) rfl) (sv 1) (by intro _ _; rfl))) (ss_one (s_fldS W.facts rfl (n := 9) (show 9 < 13 by decide) (sv 0) (s_callTy b_tupleX call_tupleX rfl W.n_tuple rfl (ac (s_lc rfl S.nd (i_seq rfl (sv 3)) (own := [("one", 4)]) (blkOf (by kernel_rfl)) (by decide) (fun _ _ _ _ _ => gn 4 S.nd) (fun _ _ _ _ _ => pts_yes) (fun _ _ _ _ _ => s_fld W.facts rfl (n := 0) (show 0 < 13 by decide) (sv 4) rfl)) (a_nil)))))))))))
theorem sc_Kit_kind : FnScope ["self", "name", "found", "one"] ["self", "name"] (defScope (inS (topS 44) 2)) := ⟨rfl, rfl, rfl, by decide +kernel, rfl, by decide +kernel, by decide +kernel⟩
theorem ok_Kit_kind (W : WF P w K mg) : FnOk P w K mg base CX0 1 (He.fAd K ("Kit", some "kind")) W.fd_Kit_kind ["self", "name"] (spM (GX P w K) 2 mf_Kit_kind) := by
  have S := sc_Kit_kind
  refine fn_okM (N := ["self", "name", "found", "one"]) (b := m_Kit_kind) W.F_Kit_kind S fun cdv A outer s H E hr => PSs.nox ?_
  conv in (occs := *) defScope (inS (topS 44) 2) => whnf
  conv in (occs := *) defBody (inS (topS 44) 2) => whnf
  conv at hr in (occs := *) defScope (inS (topS 44) 2) => whnf
  exact ss_cons (s_setLc rfl S.nd rfl rfl (sw_true rfl rfl rfl rfl) (i_seq rfl (s_fld W.facts rfl (n := 7) (show 7 < 13 by decide) (sv 0) rfl)) (own := [("one", 3)]) (blkOf (by kernel_rfl)) (by decide) (fun _ _ _ _ _ => gn 3 S.nd) (fun _ _ _ _ _ => pts_one (tand (t_truth rfl (s_isi W.facts rfl rfl W.n_isinstance (sv 1) (pe_bltn (v := .ty "str") (u := .type "str") (by rfl) W.n_str (by rfl) (by rfl)) (.ty _) W.is_str) (by intro _; rfl)) (t_and1 (t_cmp (cmp_ok rfl (r65 hr)) .eq (s_fld W.facts rfl (n := 0) (show 0 < 13 by decide) (sv 3) rfl) (sv 1) rfl)))) (fun _ _ _ _ _ => sv 3)) (ss_cons (s_ifS (t_eqNil rfl (r65 hr) (sv 2) (s_lst (a_nil)) rfl) (ss_never) (ss_nil)) (ss_one (s_ret (s_ix rfl (sv 2) (s_int) (by intro _ _; rfl)))))
theorem sc_need_kit : FnScope ["value", "part"] ["value", "part"] (defScope (topS 45)) := ⟨rfl, rfl, rfl, by decide +kernel, rfl, by decide +kernel, by decide +kernel⟩
theorem ok_need_kit (W : WF P w K mg) : FnOk P w K mg base CX0 1 (He.fAd K ("need_kit", none)) W.fd_need_kit ["value", "part"] (spM (GX P w K) 2 mf_need_kit) := by
  have S := sc_need_kit
  refine fn_okM (N := ["value", "part"]) (b := m_need_kit) W.F_need_kit S fun cdv A outer s H E hr => PSs.nox ?_
  conv in (occs := *) defScope (topS 45) => whnf
  conv in (occs := *) defBody (topS 45) => whnf
  conv at hr in (occs := *) defScope (topS 45) => whnf
  exact ss_cons (s_ifS (t_not (t_truth rfl (s_isi W.facts rfl rfl W.n_isinstance (sv 0) (pe_glob (v := .ref (He.ga K "Kit")) (by rfl) W.g_Kit (by rfl)) (.own _) W.is_Kit) (by intro _; rfl))) (ss_never) (ss_nil)) (ss_one (s_ret (sv 0)))
theorem sc_need_grade : FnScope ["value"] ["value"] (defScope (topS 47)) := ⟨rfl, rfl, rfl, by decide +kernel, rfl, by decide +kernel, by decide +kernel⟩
theorem ok_need_grade (W : WF P w K mg) : FnOk P w K mg base CX0 3 (He.fAd K ("need_grade", none)) W.fd_need_grade ["value"] (spM (GX P w K) 1 mf_need_grade) := by
  have S := sc_need_grade
  refine fn_okM (N := ["value"]) (b := m_need_grade) W.F_need_grade S fun cdv A outer s H E hr => PSs.nox ?_
  conv in (occs := *) defScope (topS 47) => whnf
  conv in (occs := *) defBody (topS 47) => whnf
  conv at hr in (occs := *) defScope (topS 47) => whnf
  exact ss_cons (s_ifS (tor (t_not (t_truth rfl (s_callP (fn_okP (ok_is_between W)) (hr.mono (by decide)) rfl W.g_is_between W.F_is_between.kp W.b_is_between .nil (by intro _ _ _; simp only [RVs]) (ac (sv 0) (ac (s_int) (ac (s_ix rfl (s_glob rfl (W.c_GRADES.choose_spec.choose_spec.1) (W.c_GRADES.choose_spec.choose_spec.2.1) (W.c_GRADES.choose_spec.choose_spec.2.2) rfl) (s_neg (s_int)) (by intro _ _; rfl)) (a_nil)))) pass0) (by intro _; rfl))) (t_or1 (t_cmp (cmp_ok rfl (r65 hr)) .notin (sv 0) (s_glob rfl (W.c_GRADES.choose_spec.choose_spec.1) (W.c_GRADES.choose_spec.choose_spec.2.1) (W.c_GRADES.choose_spec.choose_spec.2.2) rfl) rfl))) (ss_never) (ss_nil)) (ss_one (s_ret (sv 0)))
theorem sc_joint_partings : FnScope ["joints"] ["joints"] (defScope (topS 53)) := ⟨rfl, rfl, rfl, by decide +kernel, rfl, by decide +kernel, by decide +kernel⟩
theorem ok_joint_partings (W : WF P w K mg) : FnOk P w K mg base CX0 1 (He.fAd K ("joint_partings", none)) W.fd_joint_partings ["joints"] (spM (GX P w K) 1 mf_joint_partings) := by
  have S := sc_joint_partings
  refine fn_okM (N := ["joints"]) (b := m_joint_partings) W.F_joint_partings S fun cdv A outer s H E hr => PSs.nox ?_
  conv in (occs := *) defScope (topS 53) => whnf
  conv in (occs := *) defBody (topS 53) => whnf
  conv at hr in (occs := *) defScope (topS 53) => whnf
  exact ss_one (s_ret (s_ix rfl (s_glob rfl (W.c_JOINT_PARTINGS.choose_spec.choose_spec.1) (W.c_JOINT_PARTINGS.choose_spec.choose_spec.2.1) (W.c_JOINT_PARTINGS.choose_spec.choose_spec.2.2) rfl) (s_bin rfl .sub (sv 0) (s_int)) (by intro _ _; rfl)))
theorem sc_cuts_of : FnScope ["joints"] ["joints"] (defScope (topS 54)) := ⟨rfl, rfl, rfl, by decide +kernel, rfl, by decide +kernel, by decide +kernel⟩
theorem ok_cuts_of (W : WF P w K mg) : FnOk P w K mg base CX0 1 (He.fAd K ("cuts_of", none)) W.fd_cuts_of ["joints"] (spM (GX P w K) 1 mf_cuts_of) := by
  have S := sc_cuts_of
  refine fn_okM (N := ["joints"]) (b := m_cuts_of) W.F_cuts_of S fun cdv A outer s H E hr => PSs.nox ?_
  conv in (occs := *) defScope (topS 54) => whnf
  conv in (occs := *) defBody (topS 54) => whnf
  conv at hr in (occs := *) defScope (topS 54) => whnf
  exact ss_one (s_ret (s_ix rfl (s_glob rfl (W.c_JOINT_CUTS.choose_spec.choose_spec.1) (W.c_JOINT_CUTS.choose_spec.choose_spec.2.1) (W.c_JOINT_CUTS.choose_spec.choose_spec.2.2) rfl) (s_bin rfl .sub (sv 0) (s_int)) (by intro _ _; rfl)))
theorem sc_steps_of : FnScope ["joints"] ["joints"] (defScope (topS 55)) := ⟨rfl, rfl, rfl, by decide +kernel, rfl, by decide +kernel, by decide +kernel⟩
theorem ok_steps_of (W : WF P w K mg) : FnOk P w K mg base CX0 1 (He.fAd K ("steps_of", none)) W.fd_steps_of ["joints"] (spM (GX P w K) 1 mf_steps_of) := by
  have S := sc_steps_of
  refine fn_okM (N := ["joints"]) (b := m_steps_of) W.F_steps_of S fun cdv A outer s H E hr => PSs.nox ?_
  conv in (occs := *) defScope (topS 55) => whnf
  conv in (occs := *) defBody (topS 55) => whnf
  conv at hr in (occs := *) defScope (topS 55) => whnf
  exact ss_one (s_ret (s_ix rfl (s_glob rfl (W.c_JOINT_STEPS.choose_spec.choose_spec.1) (W.c_JOINT_STEPS.choose_spec.choose_spec.2.1) (W.c_JOINT_STEPS.choose_spec.choose_spec.2.2) rfl) (s_bin rfl .sub (sv 0) (s_int)) (by intro _ _; rfl)))
theorem sc_joins_of : FnScope ["joints"] ["joints"] (defScope (topS 56)) := ⟨rfl, rfl, rfl, by decide +kernel, rfl, by decide +kernel, by decide +kernel⟩
theorem ok_joins_of (W : WF P w K mg) : FnOk P w K mg base CX0 1 (He.fAd K ("joins_of", none)) W.fd_joins_of ["joints"] (spM (GX P w K) 1 mf_joins_of) := by
  have S := sc_joins_of
  refine fn_okM (N := ["joints"]) (b := m_joins_of) W.F_joins_of S fun cdv A outer s H E hr => PSs.nox ?_
  conv in (occs := *) defScope (topS 56) => whnf
  conv in (occs := *) defBody (topS 56) => whnf
  conv at hr in (occs := *) defScope (topS 56) => whnf
  exact ss_one (s_ret (s_ix rfl (s_glob rfl (W.c_JOINT_JOINS.choose_spec.choose_spec.1) (W.c_JOINT_JOINS.choose_spec.choose_spec.2.1) (W.c_JOINT_JOINS.choose_spec.choose_spec.2.2) rfl) (s_bin rfl .sub (sv 0) (s_int)) (by intro _ _; rfl)))
theorem sc_fixed : FnScope ["value", "one"] ["value"] (defScope (topS 58)) := ⟨rfl, rfl, rfl, by decide +kernel, rfl, by decide +kernel, by decide +kernel⟩
theorem okn_fixed (W : WF P w K mg) : ∀ n : Nat, FnOk P w K mg base CX0 (n + 1) (He.fAd K ("fixed", none)) W.fd_fixed ["value"] (spP (GX P w K) 1 (pn_fixed n))
  | 0 => fn_none
  | n + 1 => by
    have ih := okn_fixed W n
    have S := sc_fixed
    refine fn_okP (fn_okM (N := ["value", "one"]) (b := m_fixed (pn_fixed n)) W.F_fixed S fun cdv A outer s H E hr => PSs.nox ?_)
    conv in (occs := *) defScope (topS 58) => whnf
    conv in (occs := *) defBody (topS 58) => whnf
    conv at hr in (occs := *) defScope (topS 58) => whnf
    exact ss_cons (s_ifS (t_truth rfl (s_isiT W.facts rfl rfl W.n_isinstance (sv 0) (pa_cons (pe_bltn (v := .ty "list") (u := .type "list") (by rfl) W.n_list (by rfl) (by rfl)) (pa_cons (pe_bltn (v := .ty "tuple") (u := .type "tuple") (by rfl) W.n_tuple (by rfl) (by rfl)) (pa_nil) (by rfl)) (by rfl)) (.cons (.ty _) (.cons (.ty _) (.nil))) (by decide) W.is_list_tuple) (by intro _; rfl)) (ss_one (s_ret (s_callTy b_tupleX call_tupleX rfl W.n_tuple rfl (ac (s_lc rfl S.nd (i_seq rfl (sv 0)) (own := [("one", 1)]) (blkOf (by kernel_rfl)) (by decide) (fun _ _ _ _ _ => gn 1 S.nd) (fun _ _ _ _ _ => pts_yes) (fun _ _ _ _ _ => s_callP (ih) (hr) rfl W.g_fixed W.F_fixed.kp W.b_fixed .nil (by intro _ _ _; simp only [RVs]) (ac (sv 1) (a_nil)) pass0)) (a_nil))))) (ss_nil)) (ss_one (s_ret (sv 0)))
theorem sc_storey_on : FnScope ["kind", "top", "many", "found", "piece"] ["kind", "top", "many"] (defScope (topS 60)) := ⟨rfl, rfl, rfl, by decide +kernel, rfl, by decide +kernel, by decide +kernel⟩
theorem ok_storey_on (W : WF P w K mg) : FnOk P w K mg base CX0 1 (He.fAd K ("storey_on", none)) W.fd_storey_on ["kind", "top", "many"] (spM (GX P w K) 3 mf_storey_on) := by
  have S := sc_storey_on
  refine fn_okM (N := ["kind", "top", "many", "found", "piece"]) (b := m_storey_on) W.F_storey_on S fun cdv A outer s H E hr => PSs.nox ?_
  conv in (occs := *) defScope (topS 60) => whnf
  conv in (occs := *) defBody (topS 60) => whnf
  conv at hr in (occs := *) defScope (topS 60) => whnf
  exact ss_cons (s_set S.nd rfl (by first | exact .inl rfl | exact .inr rfl) (s_new (a_nil))) (ss_cons (s_for PassesOwn.never rfl (i_seq rfl (s_fld W.facts rfl (n := 1) (show 1 < 13 by decide) (sv 0) rfl)) (gn 4 S.nd) (ss_one (s_ifS (t_cmp (cmp_ok rfl (r65 hr)) .isin (sv 4) (s_fld W.facts rfl (n := 2) (show 2 < 13 by decide) (sv 0) rfl) rfl) (ss_one (s_expr (s_app (sv 3) (s_ix rfl (sv 1) (s_tix rfl (s_fld W.facts rfl (n := 2) (show 2 < 13 by decide) (sv 0) rfl) (sv 4)) (by intro _ _; rfl))))) (ss_cons (s_expr (s_app (sv 3) (sv 2))) (ss_one (s_set S.nd rfl (by first | exact .inl rfl | exact .inr rfl) (s_bin rfl .add (sv 2) (s_int)))))))) (ss_one (s_ret (s_callTy b_tupleX call_tupleX rfl W.n_tuple rfl (ac (sv 3) (a_nil))))))
theorem sc_high_of : FnScope ["kind", "row", "piece"] ["kind", "row"] (defScope (topS 61)) := ⟨rfl, rfl, rfl, by decide +kernel, rfl, by decide +kernel, by decide +kernel⟩
theorem ok_high_of (W : WF P w K mg) : FnOk P w K mg base CX0 1 (He.fAd K ("high_of", none)) W.fd_high_of ["kind", "row"] (spM (GX P w K) 2 mf_high_of) := by
  have S := sc_high_of
  refine fn_okM (N := ["kind", "row", "piece"]) (b := m_high_of) W.F_high_of S fun cdv A outer s H E hr => PSs.nox ?_
  conv in (occs := *) defScope (topS 61) => whnf
  conv in (occs := *) defBody (topS 61) => whnf
  conv at hr in (occs := *) defScope (topS 61) => whnf
  exact ss_one (s_ret (s_callTy b_tupleX call_tupleX rfl W.n_tuple rfl (ac (s_lc rfl S.nd (i_seq rfl (s_fld W.facts rfl (n := 3) (show 3 < 13 by decide) (sv 0) rfl)) (own := [("piece", 2)]) (blkOf (by kernel_rfl)) (by decide) (fun _ _ _ _ _ => gn 2 S.nd) (fun _ _ _ _ _ => pts_yes) (fun _ _ _ _ _ => s_ix rfl (sv 1) (s_tix rfl (s_fld W.facts rfl (n := 1) (show 1 < 13 by decide) (sv 0) rfl) (sv 2)) (by intro _ _; rfl))) (a_nil))))
theorem sc_are_kinds_of : FnScope ["kit", "value", "name"] ["kit", "value"] (defScope (topS 64)) := ⟨rfl, rfl, rfl, by decide +kernel, rfl, by decide +kernel, by decide +kernel⟩
theorem ok_are_kinds_of (W : WF P w K mg) : FnOk P w K mg base CX0 2 (He.fAd K ("are_kinds_of", none)) W.fd_are_kinds_of ["kit", "value"] (spM (GX P w K) 2 mf_are_kinds_of) := by
  have S := sc_are_kinds_of
  refine fn_okM (N := ["kit", "value", "name"]) (b := m_are_kinds_of) W.F_are_kinds_of S fun cdv A outer s H E hr => PSs.nox ?_
  conv in (occs := *) defScope (topS 64) => whnf
  conv in (occs := *) defBody (topS 64) => whnf
  conv at hr in (occs := *) defScope (topS 64) => whnf
  exact ss_cons (s_ifS (tor (t_not (t_truth rfl (s_callP (fn_okP (ok_is_listed W)) (hr.mono (by decide)) rfl W.g_is_listed W.F_is_listed.kp W.b_is_listed .nil (by intro _ _ _; simp only [RVs]) (ac (sv 1) (a_nil)) pass0) (by intro _; rfl))) (t_or1 (t_cmp (cmp_ok rfl (r65 hr)) .gt (s_callB b_len call_lenA rfl W.n_len rfl (ac (sv 1) (a_nil))) (s_glob rfl (W.c_MOST_LONG.choose_spec.choose_spec.1) (W.c_MOST_LONG.choose_spec.choose_spec.2.1) (W.c_MOST_LONG.choose_spec.choose_spec.2.2) rfl) rfl))) (ss_one (s_ret (s_bl))) (ss_nil)) (ss_one (s_ret (s_callB b_all (cr_all rfl) rfl W.n_all rfl (ac (s_lc rfl S.nd (i_seq rfl (sv 1)) (own := [("name", 2)]) (blkOf (by kernel_rfl)) (by decide) (fun _ _ _ _ _ => gn 2 S.nd) (fun _ _ _ _ _ => pts_yes) (fun _ _ _ _ _ => s_and (s_isi W.facts rfl rfl W.n_isinstance (sv 2) (pe_bltn (v := .ty "str") (u := .type "str") (by rfl) W.n_str (by rfl) (by rfl)) (.ty _) W.is_str) (s_one (s_cmp (cmp_ok rfl (r65 hr)) .isin (sv 2) (s_fld W.facts rfl (n := 9) (show 9 < 13 by decide) (sv 0) rfl) rfl)))) (a_nil)))))
theorem sc_Word___init__ : FnScope ["self", "kit", "names", "ropes", "top", "name", "row", "one", "other", "number"] ["self", "kit", "names"] (defScope (inS (topS 65) 0)) := ⟨rfl, rfl, rfl, by decide +kernel, rfl, by decide +kernel, by decide +kernel⟩
theorem ok_Word___init__ (W : WF P w K mg) : FnOk P w K mg base CX0 3 (He.fAd K ("Word", some "__init__")) W.fd_Word___init__ ["self", "kit", "names"] (spM (GX P w K) 3 mf_Word___init__) := by
  have S := sc_Word___init__
  refine fn_okM (N := ["self", "kit", "names", "ropes", "top", "name", "row", "one", "other", "number"]) (b := m_Word___init__) W.F_Word___init__ S fun cdv A outer s H E hr => PSs.nox ?_
  conv in (occs := *) defScope (inS (topS 65) 0) => whnf
  conv in (occs := *) defBody (inS (topS 65) 0) => whnf
  conv at hr in (occs := *) defScope (inS (topS 65) 0) => whnf
  exact ss_cons (s_expr (s_callP (fn_okP (ok_need_kit W)) (hr.mono (by decide)) rfl W.g_need_kit W.F_need_kit.kp W.bd1_need_kit.choose_spec.2 W.bd1_need_kit.choose_spec.1 (by intro _ _ _; simp [RVs, RV]) (ac (sv 1) (a_nil)) pass0)) (ss_cons (s_ifS (t_not (t_truth rfl (s_callP (fn_okP (ok_are_kinds_of W)) (hr.mono (by decide)) rfl W.g_are_kinds_of W.F_are_kinds_of.kp W.b_are_kinds_of .nil (by intro _ _ _; simp only [RVs]) (ac (sv 1) (ac (sv 2) (a_nil))) pass0) (by intro _; rfl))) (ss_never) (ss_nil)) (ss_cons (s_fldS W.facts rfl (n := 10) (show 10 < 13 by decide) (sv 0) (sv 1)) (ss_cons (s_fldS W.facts rfl (n := 9) (show 9 < 13 by decide) (sv 0) (s_callTy b_tupleX call_tupleX rfl W.n_tuple rfl (ac (sv 2) (a_nil)))) (ss_cons (s_fldS W.facts rfl (n := 2) (show 2 < 13 by decide) (sv 0) (s_callP (fn_okP (ok_finest W)) (hr.mono (by decide)) rfl W.g_finest W.F_finest.kp W.b_finest .nil (by intro _ _ _; simp only [RVs]) (ac (s_fld W.facts rfl (n := 6) (show 6 < 13 by decide) (sv 1) rfl) (a_nil)) pass0)) (ss_cons (s_fldS W.facts rfl (n := 11) (show 11 < 13 by decide) (sv 0) (s_fld W.facts rfl (n := 6) (show 6 < 13 by decide) (sv 1) rfl)) (ss_cons (s_par rfl S.nd rfl rfl (by decide) rfl rfl (ac (s_new (a_nil)) (ac (s_fld W.facts rfl (n := 2) (show 2 < 13 by decide) (sv 0) rfl) (a_nil))) rfl) (ss_cons (s_for PassesOwn.never rfl (i_seq rfl (s_fld W.facts rfl (n := 9) (show 9 < 13 by decide) (sv 0) rfl)) (gn 5 S.nd) (ss_cons (s_set S.nd rfl (by first | exact .inl rfl | exact .inr rfl) (s_callP (fn_okP (ok_storey_on W)) (hr.mono (by decide)) rfl W.g_storey_on W.F_storey_on.kp W.b_storey_on .nil (by intro _ _ _; simp only [RVs]) (ac (s_meth (c := 1) W.nm_kind (sv 1) W.cl_Kit W.mt_Kit_kind (fn_okP (ok_Kit_kind W)) (hr.mono (by decide)) W.b_Kit_kind .nil (by intro _ _ _; simp only [RVs]) (ac (sv 5) (a_nil)) pass0) (ac (sv 4) (ac (s_fld W.facts rfl (n := 11) (show 11 < 13 by decide) (sv 0) rfl) (a_nil)))) pass0)) (ss_cons (s_fldS W.facts rfl (n := 11) (show 11 < 13 by decide) (sv 0) (s_callB b_max (call_maxB rfl hr.units) rfl W.n_max rfl (ac (s_bin rfl .add (s_lst (ac (s_fld W.facts rfl (n := 11) (show 11 < 13 by decide) (sv 0) rfl) (a_nil))) (s_lc rfl S.nd (i_seq rfl (sv 6)) (own := [("number", 9)]) (blkOf (by kernel_rfl)) (by decide) (fun _ _ _ _ _ => gn 9 S.nd) (fun _ _ _ _ _ => pts_yes) (fun _ _ _ _ _ => s_bin rfl .add (sv 9) (s_int)))) (a_nil)))) (ss_cons (s_expr (s_ext (sv 3) (s_lc rfl S.nd (i_seq rfl (s_callP (fn_okP (ok_pairs_in W)) (hr.mono (by decide)) rfl W.g_pairs_in W.F_pairs_in.kp W.b_pairs_in .nil (by intro _ _ _; simp only [RVs]) (ac (s_meth (c := 1) W.nm_kind (sv 1) W.cl_Kit W.mt_Kit_kind (fn_okP (ok_Kit_kind W)) (hr.mono (by decide)) W.b_Kit_kind .nil (by intro _ _ _; simp only [RVs]) (ac (sv 5) (a_nil)) pass0) (a_nil)) pass0)) (own := [("one", 7), ("other", 8)]) (blkOf (by kernel_rfl)) (by decide) (fun _ _ _ _ _ => g_seq rfl rfl (gs_cons (gn 7 S.nd) (gs_cons (gn 8 S.nd) (gs_nil)))) (fun _ _ _ _ _ => pts_yes) (fun _ _ _ _ _ => s_tup (ac (s_ix rfl (sv 6) (sv 7) (by intro _ _; rfl)) (ac (s_ix rfl (sv 6) (sv 8) (by intro _ _; rfl)) (a_nil))))))) (ss_one (s_set S.nd rfl (by first | exact .inl rfl | exact .inr rfl) (s_callP (fn_okP (ok_high_of W)) (hr.mono (by decide)) rfl W.g_high_of W.F_high_of.kp W.b_high_of .nil (by intro _ _ _; simp only [RVs]) (ac (s_meth (c := 1) W.nm_kind (sv 1) W.cl_Kit W.mt_Kit_kind (fn_okP (ok_Kit_kind W)) (hr.mono (by decide)) W.b_Kit_kind .nil (by intro _ _ _; simp only [RVs]) (ac (sv 5) (a_nil)) pass0) (ac (sv 6) (a_nil))) pass0))))))) (ss_cons (s_fldS W.facts rfl (n := 3) (show 3 < 13 by decide) (sv 0) (sv 4)) (ss_one (s_fldS W.facts rfl (n := 4) (show 4 < 13 by decide) (sv 0) (s_callTy b_tupleX call_tupleX rfl W.n_tuple rfl (ac (sv 3) (a_nil)))))))))))))
theorem sc_need_word : FnScope ["value", "part"] ["value", "part"] (defScope (topS 66)) := ⟨rfl, rfl, rfl, by decide +kernel, rfl, by decide +kernel, by decide +kernel⟩
theorem ok_need_word (W : WF P w K mg) : FnOk P w K mg base CX0 1 (He.fAd K ("need_word", none)) W.fd_need_word ["value", "part"] (spM (GX P w K) 2 mf_need_word) := by
  have S := sc_need_word
  refine fn_okM (N := ["value", "part"]) (b := m_need_word) W.F_need_word S fun cdv A outer s H E hr => PSs.nox ?_
  conv in (occs := *) defScope (topS 66) => whnf
  conv in (occs := *) defBody (topS 66) => whnf
  conv at hr in (occs := *) defScope (topS 66) => whnf
  exact ss_cons (s_ifS (t_not (t_truth rfl (s_isi W.facts rfl rfl W.n_isinstance (sv 0) (pe_glob (v := .ref (He.ga K "Word")) (by rfl) W.g_Word (by rfl)) (.own _) W.is_Word) (by intro _; rfl))) (ss_never) (ss_nil)) (ss_one (s_ret (sv 0)))
theorem sc_need_two_words : FnScope ["one", "other"] ["one", "other"] (defScope (topS 67)) := ⟨rfl, rfl, rfl, by decide +kernel, rfl, by decide +kernel, by decide +kernel⟩
theorem ok_need_two_words (W : WF P w K mg) : FnOk P w K mg base CX0 2 (He.fAd K ("need_two_words", none)) W.fd_need_two_words ["one", "other"] (spM (GX P w K) 2 mf_need_two_words) := by
  have S := sc_need_two_words
  refine fn_okM (N := ["one", "other"]) (b := m_need_two_words) W.F_need_two_words S fun cdv A outer s H E hr => PSs.nox ?_
  conv in (occs := *) defScope (topS 67) => whnf
  conv in (occs := *) defBody (topS 67) => whnf
  conv at hr in (occs := *) defScope (topS 67) => whnf
  exact ss_cons (s_expr (s_callP (fn_okP (ok_need_word W)) (hr.mono (by decide)) rfl W.g_need_word W.F_need_word.kp W.b_need_word .nil (by intro _ _ _; simp only [RVs]) (ac (sv 0) (ac (s_str) (a_nil))) pass0)) (ss_cons (s_expr (s_callP (fn_okP (ok_need_word W)) (hr.mono (by decide)) rfl W.g_need_word W.F_need_word.kp W.b_need_word .nil (by intro _ _ _; simp only [RVs]) (ac (sv 1) (ac (s_str) (a_nil))) pass0)) (ss_cons (s_ifS (t_cmp (cmp_ok rfl (r65 hr)) .ne (s_fld W.facts rfl (n := 5) (show 5 < 13 by decide) (s_fld W.facts rfl (n := 10) (show 10 < 13 by decide) (sv 0) rfl) rfl) (s_fld W.facts rfl (n := 5) (show 5 < 13 by decide) (s_fld W.facts rfl (n := 10) (show 10 < 13 by decide) (sv 1) rfl) rfl) rfl) (ss_never) (ss_nil)) (ss_one (s_ifS (t_cmp (cmp_ok rfl (r65 hr)) .ne (s_fld W.facts rfl (n := 6) (show 6 < 13 by decide) (s_fld W.facts rfl (n := 10) (show 10 < 13 by decide) (sv 0) rfl) rfl) (s_fld W.facts rfl (n := 6) (show 6 < 13 by decide) (s_fld W.facts rfl (n := 10) (show 10 < 13 by decide) (sv 1) rfl) rfl) rfl) (ss_never) (ss_nil)))))
theorem sc_is_row : FnScope ["value", "joints", "one"] ["value", "joints"] (defScope (topS 69)) := ⟨rfl, rfl, rfl, by decide +kernel, rfl, by decide +kernel, by decide +kernel⟩
theorem ok_is_row (W : WF P w K mg) : FnOk P w K mg base CX0 2 (He.fAd K ("is_row", none)) W.fd_is_row ["value", "joints"] (spM (GX P w K) 2 mf_is_row) := by
  have S := sc_is_row
  refine fn_okM (N := ["value", "joints", "one"]) (b := m_is_row) W.F_is_row S fun cdv A outer s H E hr => PSs.nox ?_
  conv in (occs := *) defScope (topS 69) => whnf
  conv in (occs := *) defBody (topS 69) => whnf
  conv at hr in (occs := *) defScope (topS 69) => whnf
  exact ss_one (s_ret (s_and (s_callP (fn_okP (ok_is_listed W)) (hr.mono (by decide)) rfl W.g_is_listed W.F_is_listed.kp W.b_is_listed .nil (by intro _ _ _; simp only [RVs]) (ac (sv 0) (a_nil)) pass0) (s_and (s_cmp (cmp_ok rfl (r65 hr)) .eq (s_callB b_len call_lenA rfl W.n_len rfl (ac (sv 0) (a_nil))) (s_callB b_len call_lenA rfl W.n_len rfl (ac (s_callP (fn_okP (ok_cuts_of W)) (hr.mono (by decide)) rfl W.g_cuts_of W.F_cuts_of.kp W.b_cuts_of .nil (by intro _ _ _; simp only [RVs]) (ac (sv 1) (a_nil)) pass0) (a_nil))) rfl) (s_one (s_callB b_all (cr_all rfl) rfl W.n_all rfl (ac (s_lc rfl S.nd (i_seq rfl (sv 0)) (own := [("one", 2)]) (blkOf (by kernel_rfl)) (by decide) (fun _ _ _ _ _ => gn 2 S.nd) (fun _ _ _ _ _ => pts_yes) (fun _ _ _ _ _ => s_callP (fn_okP (ok_is_integer W)) (hr.mono (by decide)) rfl W.g_is_integer W.F_is_integer.kp W.b_is_integer .nil (by intro _ _ _; simp only [RVs]) (ac (sv 2) (a_nil)) pass0)) (a_nil)))))))
theorem sc_is_steady : FnScope ["row", "grade", "joints", "at", "spot", "fewer"] ["row", "grade", "joints"] (defScope (topS 70)) := ⟨rfl, rfl, rfl, by decide +kernel, rfl, by decide +kernel, by decide +kernel⟩
theorem ok_is_steady (W : WF P w K mg) : FnOk P w K mg base CX0 2 (He.fAd K ("is_steady", none)) W.fd_is_steady ["row", "grade", "joints"] (spM (GX P w K) 3 mf_is_steady) := by
  have S := sc_is_steady
  refine fn_okM (N := ["row", "grade", "joints", "at", "spot", "fewer"]) (b := m_is_steady) W.F_is_steady S fun cdv A outer s H E hr => PSs.nox ?_
  conv in (occs := *) defScope (topS 70) => whnf
  conv in (occs := *) defBody (topS 70) => whnf
  conv at hr in (occs := *) defScope (topS 70) => whnf
  exact ss_one (s_ret (s_callB b_all (cr_all rfl) rfl W.n_all rfl (ac (s_lc rfl S.nd (i_seq rfl (s_callP (fn_okP (ok_steps_of W)) (hr.mono (by decide)) rfl W.g_steps_of W.F_steps_of.kp W.b_steps_of .nil (by intro _ _ _; simp only [RVs]) (ac (sv 2) (a_nil)) pass0)) (own := [("at", 3), ("spot", 4), ("fewer", 5)]) (blkOf (by kernel_rfl)) (by decide) (fun _ _ _ _ _ => g_seq rfl rfl (gs_cons (gn 3 S.nd) (gs_cons (gn 4 S.nd) (gs_cons (gn 5 S.nd) (gs_nil))))) (fun _ _ _ _ _ => pts_yes) (fun _ _ _ _ _ => s_chn (cmp_ok rfl (r65 hr)) .le .le (s_ix rfl (sv 0) (sv 4) (by intro _ _; rfl)) (s_ix rfl (sv 0) (sv 3) (by intro _ _; rfl)) (s_bin rfl .add (s_ix rfl (sv 0) (sv 4) (by intro _ _; rfl)) (s_bin rfl .mul (sv 1) (sv 5))) rfl)) (a_nil))))
theorem sc_are_rows : FnScope ["value", "grade", "joints", "at", "row"] ["value", "grade", "joints"] (defScope (topS 71)) := ⟨rfl, rfl, rfl, by decide +kernel, rfl, by decide +kernel, by decide +kernel⟩
theorem ok_are_rows (W : WF P w K mg) : FnOk P w K mg base CX0 3 (He.fAd K ("are_rows", none)) W.fd_are_rows ["value", "grade", "joints"] (spM (GX P w K) 3 mf_are_rows) := by
  have S := sc_are_rows
  refine fn_okM (N := ["value", "grade", "joints", "at", "row"]) (b := m_are_rows) W.F_are_rows S fun cdv A outer s H E hr => PSs.nox ?_
  conv in (occs := *) defScope (topS 71) => whnf
  conv in (occs := *) defBody (topS 71) => whnf
  conv at hr in (occs := *) defScope (topS 71) => whnf
  exact ss_cons (s_ifS (tor (t_not (t_truth rfl (s_callP (fn_okP (ok_is_listed W)) (hr.mono (by decide)) rfl W.g_is_listed W.F_is_listed.kp W.b_is_listed .nil (by intro _ _ _; simp only [RVs]) (ac (sv 0) (a_nil)) pass0) (by intro _; rfl))) (t_or1 (t_cmp (cmp_ok rfl (r65 hr)) .notin (s_callB b_len call_lenA rfl W.n_len rfl (ac (sv 0) (a_nil))) (s_tup (ac (s_int) (ac (s_callB b_len call_lenA rfl W.n_len rfl (ac (s_callP (fn_okP (ok_cuts_of W)) (hr.mono (by decide)) rfl W.g_cuts_of W.F_cuts_of.kp W.b_cuts_of .nil (by intro _ _ _; simp only [RVs]) (ac (sv 2) (a_nil)) pass0) (a_nil))) (a_nil)))) rfl))) (ss_one (s_ret (s_bl))) (ss_nil)) (ss_cons (s_ifS (t_cmp (cmp_ok rfl (r65 hr)) .eq (s_callB b_len call_lenA rfl W.n_len rfl (ac (sv 0) (a_nil))) (s_int) rfl) (ss_one (s_ret (s_bl))) (ss_nil)) (ss_cons (s_ifS (tor (t_not (t_truth rfl (s_callB b_all (cr_all rfl) rfl W.n_all rfl (ac (s_lc rfl S.nd (i_seq rfl (sv 0)) (own := [("row", 4)]) (blkOf (by kernel_rfl)) (by decide) (fun _ _ _ _ _ => gn 4 S.nd) (fun _ _ _ _ _ => pts_yes) (fun _ _ _ _ _ => s_callP (fn_okP (ok_is_row W)) (hr.mono (by decide)) rfl W.g_is_row W.F_is_row.kp W.b_is_row .nil (by intro _ _ _; simp only [RVs]) (ac (sv 4) (ac (sv 2) (a_nil))) pass0)) (a_nil))) (by intro _; rfl))) (t_or1 (t_cmp (cmp_ok rfl (r65 hr)) .ne (s_ix rfl (s_ix rfl (sv 0) (s_int) (by intro _ _; rfl)) (s_int) (by intro _ _; rfl)) (s_int) rfl))) (ss_one (s_ret (s_bl))) (ss_nil)) (ss_cons (s_ifS (t_not (t_truth rfl (s_callB b_all (cr_all rfl) rfl W.n_all rfl (ac (s_lc rfl S.nd (i_seq rfl (sv 0)) (own := [("row", 4)]) (blkOf (by kernel_rfl)) (by decide) (fun _ _ _ _ _ => gn 4 S.nd) (fun _ _ _ _ _ => pts_yes) (fun _ _ _ _ _ => s_callP (fn_okP (ok_is_steady W)) (hr.mono (by decide)) rfl W.g_is_steady W.F_is_steady.kp W.b_is_steady .nil (by intro _ _ _; simp only [RVs]) (ac (sv 4) (ac (sv 1) (ac (sv 2) (a_nil)))) pass0)) (a_nil))) (by intro _; rfl))) (ss_one (s_ret (s_bl))) (ss_nil)) (ss_one (s_ret (s_callB b_all (cr_all rfl) rfl W.n_all rfl (ac (s_lc rfl S.nd (i_rng1 rfl W.n_range (s_callB b_len call_lenA rfl W.n_len rfl (ac (sv 0) (a_nil)))) (own := [("at", 3)]) (blkOf (by kernel_rfl)) (by decide) (fun _ _ _ _ _ => gn 3 S.nd) (fun _ _ _ _ _ => pts_yes) (fun _ _ _ _ _ => s_callP (fn_okP (ok_is_steady W)) (hr.mono (by decide)) rfl W.g_is_steady W.F_is_steady.kp W.b_is_steady .nil (by intro _ _ _; simp only [RVs]) (ac (s_lc rfl S.nd (i_seq rfl (sv 0)) (own := [("row", 4)]) (blkOf (by kernel_rfl)) (by decide) (fun _ _ _ _ _ => gn 4 S.nd) (fun _ _ _ _ _ => pts_yes) (fun _ _ _ _ _ => s_ix rfl (sv 4) (sv 3) (by intro _ _; rfl))) (ac (sv 1) (ac (sv 2) (a_nil)))) pass0)) (a_nil))))))))
theorem sc_Deed___init__ : FnScope ["self", "grade", "joints", "rows"] ["self", "grade", "joints", "rows"] (defScope (inS (topS 72) 0)) := ⟨rfl, rfl, rfl, by decide +kernel, rfl, by decide +kernel, by decide +kernel⟩
theorem ok_Deed___init__ (W : WF P w K mg) : FnOk P w K mg base CX0 6 (He.fAd K ("Deed", some "__init__")) W.fd_Deed___init__ ["self", "grade", "joints", "rows"] (spM (GX P w K) 4 mf_Deed___init__) := by
  have S := sc_Deed___init__
  refine fn_okM (N := ["self", "grade", "joints", "rows"]) (b := m_Deed___init__) W.F_Deed___init__ S fun cdv A outer s H E hr => PSs.nox ?_
  conv in (occs := *) defScope (inS (topS 72) 0) => whnf
  conv in (occs := *) defBody (inS (topS 72) 0) => whnf
  conv at hr in (occs := *) defScope (inS (topS 72) 0) => whnf
  exact ss_cons (s_expr (s_callP (fn_okP (ok_need_grade W)) (hr.mono (by decide)) rfl W.g_need_grade W.F_need_grade.kp W.b_need_grade .nil (by intro _ _ _; simp only [RVs]) (ac (sv 1) (a_nil)) pass0)) (ss_cons (s_ifS (t_not (t_truth rfl (s_callP (fn_okP (ok_is_between W)) (hr.mono (by decide)) rfl W.g_is_between W.F_is_between.kp W.b_is_between .nil (by intro _ _ _; simp only [RVs]) (ac (sv 2) (ac (s_int) (ac (s_glob rfl (W.c_MOST_JOINTS.choose_spec.choose_spec.1) (W.c_MOST_JOINTS.choose_spec.choose_spec.2.1) (W.c_MOST_JOINTS.choose_spec.choose_spec.2.2) rfl) (a_nil)))) pass0) (by intro _; rfl))) (ss_never) (ss_nil)) (ss_cons (s_ifS (t_not (t_truth rfl (s_callP (fn_okP (ok_are_rows W)) (hr.mono (by decide)) rfl W.g_are_rows W.F_are_rows.kp W.b_are_rows .nil (by intro _ _ _; simp only [RVs]) (ac (sv 3) (ac (sv 1) (ac (sv 2) (a_nil)))) pass0) (by intro _; rfl))) (ss_never) (ss_nil)) (ss_cons (s_fldS W.facts rfl (n := 8) (show 8 < 13 by decide) (sv 0) (sv 1)) (ss_cons (s_fldS W.facts rfl (n := 6) (show 6 < 13 by decide) (sv 0) (sv 2)) (ss_one (s_fldS W.facts rfl (n := 12) (show 12 < 13 by decide) (sv 0) (s_callP (okn_fixed W 4) (hr.mono (by decide)) rfl W.g_fixed W.F_fixed.kp W.b_fixed .nil (by intro _ _ _; simp only [RVs]) (ac (sv 3) (a_nil)) pass0)))))))
theorem sc_Deed___eq__ : FnScope ["self", "other"] ["self", "other"] (defScope (inS (topS 72) 1)) := ⟨rfl, rfl, rfl, by decide +kernel, rfl, by decide +kernel, by decide +kernel⟩
theorem ok_Deed___eq__ (W : WF P w K mg) : FnOk P w K mg base CX0 1 (He.fAd K ("Deed", some "__eq__")) W.fd_Deed___eq__ ["self", "other"] (spM (GX P w K) 2 mf_Deed___eq__) := by
  have S := sc_Deed___eq__
  refine fn_okM (N := ["self", "other"]) (b := m_Deed___eq__) W.F_Deed___eq__ S fun cdv A outer s H E hr => PSs.nox ?_
  conv in (occs := *) defScope (inS (topS 72) 1) => whnf
  conv in (occs := *) defBody (inS (topS 72) 1) => whnf
  conv at hr in (occs := *) defScope (inS (topS 72) 1) => whnf
  exact ss_cons (s_ifS (t_not (t_truth rfl (s_isi W.facts rfl rfl W.n_isinstance (sv 1) (pe_glob (v := .ref (He.ga K "Deed")) (by rfl) W.g_Deed (by rfl)) (.own _) W.is_Deed) (by intro _; rfl))) (ss_one (s_ret (s_bl))) (ss_nil)) (ss_one (s_ret (s_cmp (cmp_ok rfl (r65 hr)) .eq (s_tup (ac (s_fld W.facts rfl (n := 8) (show 8 < 13 by decide) (sv 0) rfl) (ac (s_fld W.facts rfl (n := 6) (show 6 < 13 by decide) (sv 0) rfl) (ac (s_fld W.facts rfl (n := 12) (show 12 < 13 by decide) (sv 0) rfl) (a_nil))))) (s_tup (ac (s_fld W.facts rfl (n := 8) (show 8 < 13 by decide) (sv 1) rfl) (ac (s_fld W.facts rfl (n := 6) (show 6 < 13 by decide) (sv 1) rfl) (ac (s_fld W.facts rfl (n := 12) (show 12 < 13 by decide) (sv 1) rfl) (a_nil))))) rfl)))
theorem sc_lost_deed : FnScope ["grade", "joints"] ["grade", "joints"] (defScope (topS 73)) := ⟨rfl, rfl, rfl, by decide +kernel, rfl, by decide +kernel, by decide +kernel⟩
theorem ok_lost_deed (W : WF P w K mg) : FnOk P w K mg base CX0 8 (He.fAd K ("lost_deed", none)) W.fd_lost_deed ["grade", "joints"] (spM (GX P w K) 2 mf_lost_deed) := by
  have S := sc_lost_deed
  refine fn_okM (N := ["grade", "joints"]) (b := m_lost_deed) W.F_lost_deed S fun cdv A outer s H E hr => PSs.nox ?_
  conv in (occs := *) defScope (topS 73) => whnf
  conv in (occs := *) defBody (topS 73) => whnf
  conv at hr in (occs := *) defScope (topS 73) => whnf
  exact ss_one (s_ret (s_make (c := 3) (show 3 < 4 by decide) W.mk_Deed (ok_Deed___init__ W) (hr.mono (by decide)) rfl W.g_Deed W.b_Deed___init__ .nil (by intro _ _ _; simp only [RVs]) (ac (sv 0) (ac (sv 1) (ac (s_tup (a_nil)) (a_nil)))) pass0))
theorem sc_empty_rows : FnScope ["grade", "joints", "cuts", "row", "at"] ["grade", "joints"] (defScope (topS 74)) := ⟨rfl, rfl, rfl, by decide +kernel, rfl, by decide +kernel, by decide +kernel⟩
theorem ok_empty_rows (W : WF P w K mg) : FnOk P w K mg base CX0 2 (He.fAd K ("empty_rows", none)) W.fd_empty_rows ["grade", "joints"] (spM (GX P w K) 2 mf_empty_rows) := by
  have S := sc_empty_rows
  refine fn_okM (N := ["grade", "joints", "cuts", "row", "at"]) (b := m_empty_rows) W.F_empty_rows S fun cdv A outer s H E hr => PSs.nox ?_
  conv in (occs := *) defScope (topS 74) => whnf
  conv in (occs := *) defBody (topS 74) => whnf
  conv at hr in (occs := *) defScope (topS 74) => whnf
  exact ss_cons (s_set S.nd rfl (by first | exact .inl rfl | exact .inr rfl) (s_callP (fn_okP (ok_cuts_of W)) (hr.mono (by decide)) rfl W.g_cuts_of W.F_cuts_of.kp W.b_cuts_of .nil (by intro _ _ _; simp only [RVs]) (ac (sv 1) (a_nil)) pass0)) (ss_one (s_ret (s_lc rfl S.nd (i_seq rfl (s_callP (fn_okP (ok_joins_of W)) (hr.mono (by decide)) rfl W.g_joins_of W.F_joins_of.kp W.b_joins_of .nil (by intro _ _ _; simp only [RVs]) (ac (sv 1) (a_nil)) pass0)) (own := [("row", 3)]) (blkOf (by kernel_rfl)) (by decide) (fun _ _ _ _ _ => gn 3 S.nd) (fun _ _ _ _ _ => pts_yes) (fun _ _ _ _ _ => s_lc rfl S.nd (i_seq rfl (sv 3)) (own := [("at", 4)]) (blkOf (by kernel_rfl)) (by decide) (fun _ _ _ _ _ => gn 4 S.nd) (fun _ _ _ _ _ => pts_yes) (fun _ _ _ _ _ => s_bin rfl .mul (sv 0) (s_ix rfl (sv 2) (sv 4) (by intro _ _; rfl)))))))
theorem sc_exact_rows : FnScope ["grade", "kind", "numbers", "ropes", "joints", "low", "high", "found", "grouping", "spot", "want", "below", "above", "piece"] ["grade", "kind"] (defScope (topS 75)) := ⟨rfl, rfl, rfl, by decide +kernel, rfl, by decide +kernel, by decide +kernel⟩
theorem ok_exact_rows (W : WF P w K mg) : FnOk P w K mg base CX0 3 (He.fAd K ("exact_rows", none)) W.fd_exact_rows ["grade", "kind"] (spM (GX P w K) 2 mf_exact_rows) := by
  have S := sc_exact_rows
  refine fn_okM (N := ["grade", "kind", "numbers", "ropes", "joints", "low", "high", "found", "grouping", "spot", "want", "below", "above", "piece"]) (b := m_exact_rows) W.F_exact_rows S fun cdv A outer s H E hr => PSs.nox ?_
  conv in (occs := *) defScope (topS 75) => whnf
  conv in (occs := *) defBody (topS 75) => whnf
  conv at hr in (occs := *) defScope (topS 75) => whnf
  exact ss_cons (s_asg (s_tup (ac (s_callP (fn_okP (ok_numbers_in W)) (hr.mono (by decide)) rfl W.g_numbers_in W.F_numbers_in.kp W.b_numbers_in .nil (by intro _ _ _; simp only [RVs]) (ac (sv 1) (a_nil)) pass0) (ac (s_callP (fn_okP (ok_pairs_in W)) (hr.mono (by decide)) rfl W.g_pairs_in W.F_pairs_in.kp W.b_pairs_in .nil (by intro _ _ _; simp only [RVs]) (ac (sv 1) (a_nil)) pass0) (ac (s_callB b_len call_lenA rfl W.n_len rfl (ac (s_fld W.facts rfl (n := 2) (show 2 < 13 by decide) (sv 1) rfl) (a_nil))) (a_nil))))) (g_seq rfl rfl (gs_cons (gn 2 S.nd) (gs_cons (gn 3 S.nd) (gs_cons (gn 4 S.nd) (gs_nil)))))) (ss_cons (s_par rfl S.nd rfl rfl (by decide) rfl rfl (ac (s_lc rfl S.nd (i_seq rfl (s_fld W.facts rfl (n := 2) (show 2 < 13 by decide) (sv 1) rfl)) (own := [("piece", 13)]) (blkOf (by kernel_rfl)) (by decide) (fun _ _ _ _ _ => gn 13 S.nd) (fun _ _ _ _ _ => pts_yes) (fun _ _ _ _ _ => s_dix (r1 hr) (sv 2) (sv 13) (by intro _ _; rfl))) (ac (s_lc rfl S.nd (i_seq rfl (s_fld W.facts rfl (n := 3) (show 3 < 13 by decide) (sv 1) rfl)) (own := [("piece", 13)]) (blkOf (by kernel_rfl)) (by decide) (fun _ _ _ _ _ => gn 13 S.nd) (fun _ _ _ _ _ => pts_yes) (fun _ _ _ _ _ => s_dix (r1 hr) (sv 2) (sv 13) (by intro _ _; rfl))) (a_nil))) rfl) (ss_cons (s_setDk2n rfl rfl rfl hr.units rfl S.nd rfl rfl (sw_trueD rfl rfl rfl rfl) (i_seq rfl (s_callP (fn_okP (ok_joint_partings W)) (hr.mono (by decide)) rfl W.g_joint_partings W.F_joint_partings.kp W.b_joint_partings .nil (by intro _ _ _; simp only [RVs]) (ac (sv 4) (a_nil)) pass0)) (own := [("below", 11), ("above", 12)]) (vs1 := [12]) (blkOf (by kernel_rfl)) (by decide) (by decide) (by decide) (fun _ _ _ _ _ => gn 11 S.nd) (fun _ _ _ _ _ => pts_yes) (fun _ _ _ _ _ => i_seq rfl (s_callP (fn_okP (ok_joint_partings W)) (hr.mono (by decide)) rfl W.g_joint_partings W.F_joint_partings.kp W.b_joint_partings .nil (by intro _ _ _; simp only [RVs]) (ac (sv 4) (a_nil)) pass0)) (fun _ _ _ _ _ => gn 12 S.nd) (fun _ _ _ _ _ => pts_yes) (fun _ _ _ _ _ => s_tup (ac (sv 11) (ac (sv 12) (a_nil)))) (fun _ _ _ _ _ => s_non)) (ss_cons (s_for PassesOwn.never rfl (i_seq rfl (s_callP (fn_okP (ok_partings_of W)) (hr.mono (by decide)) rfl W.g_partings_of W.F_partings_of.kp W.b_partings_of .nil (by intro _ _ _; simp only [RVs]) (ac (s_callB b_len call_lenA rfl W.n_len rfl (ac (s_fld W.facts rfl (n := 1) (show 1 < 13 by decide) (sv 1) rfl) (a_nil))) (a_nil)) pass0)) (gn 8 S.nd) (ss_cons (s_set S.nd rfl (by first | exact .inl rfl | exact .inr rfl) (s_tup (ac (s_callP (fn_okP (ok_told_by W)) (hr.mono (by decide)) rfl W.g_told_by W.F_told_by.kp W.b_told_by .nil (by intro _ _ _; simp only [RVs]) (ac (s_lc rfl S.nd (i_seq rfl (sv 5)) (own := [("piece", 13)]) (blkOf (by kernel_rfl)) (by decide) (fun _ _ _ _ _ => gn 13 S.nd) (fun _ _ _ _ _ => pts_yes) (fun _ _ _ _ _ => s_ix rfl (sv 8) (sv 13) (by intro _ _; rfl))) (a_nil)) pass0) (ac (s_callP (fn_okP (ok_told_by W)) (hr.mono (by decide)) rfl W.g_told_by W.F_told_by.kp W.b_told_by .nil (by intro _ _ _; simp only [RVs]) (ac (s_lc rfl S.nd (i_seq rfl (sv 6)) (own := [("piece", 13)]) (blkOf (by kernel_rfl)) (by decide) (fun _ _ _ _ _ => gn 13 S.nd) (fun _ _ _ _ _ => pts_yes) (fun _ _ _ _ _ => s_ix rfl (sv 8) (sv 13) (by intro _ _; rfl))) (a_nil)) pass0) (a_nil))))) (ss_cons (s_set S.nd rfl (by first | exact .inl rfl | exact .inr rfl) (s_bin rfl .sub (s_bin rfl .mul (sv 0) (s_bin rfl .sub (s_callP (fn_okP (ok_blocks_of W)) (hr.mono (by decide)) rfl W.g_blocks_of W.F_blocks_of.kp W.b_blocks_of .nil (by intro _ _ _; simp only [RVs]) (ac (sv 8) (a_nil)) pass0) (s_int))) (s_callP (fn_okP (ok_passing_in W)) (hr.mono (by decide)) rfl W.g_passing_in W.F_passing_in.kp W.b_passing_in .nil (by intro _ _ _; simp only [RVs]) (ac (sv 3) (ac (sv 8) (a_nil))) pass0))) (ss_one (s_ifS (tor (t_cmp (cmp_ok rfl (r65 hr)) .is (s_nix rfl rfl rfl hr.units (sv 7) (sv 9) (by intro _ _; rfl)) (s_non) rfl) (t_or1 (t_cmp (cmp_ok rfl (r65 hr)) .gt (sv 10) (s_nix rfl rfl rfl hr.units (sv 7) (sv 9) (by intro _ _; rfl)) rfl))) (ss_one (s_npt rfl rfl rfl hr.units (sv 7) (sv 9) (sv 10))) (ss_nil)))))) (ss_fz (ss_one (s_ret (sv 7)))))))
theorem sc_kind_rows : FnScope ["grade", "kind", "exact", "partings", "rows", "below", "row", "above", "some", "one", "other", "want"] ["grade", "kind"] (defScope (topS 76)) := ⟨rfl, rfl, rfl, by decide +kernel, rfl, by decide +kernel, by decide +kernel⟩
theorem ok_kind_rows (W : WF P w K mg) : FnOk P w K mg base CX0 4 (He.fAd K ("kind_rows", none)) W.fd_kind_rows ["grade", "kind"] (spM (GX P w K) 2 mf_kind_rows) := by
  have S := sc_kind_rows
  refine fn_okM (N := ["grade", "kind", "exact", "partings", "rows", "below", "row", "above", "some", "one", "other", "want"]) (b := m_kind_rows) W.F_kind_rows S fun cdv A outer s H E hr => PSs.nox ?_
  conv in (occs := *) defScope (topS 76) => whnf
  conv in (occs := *) defBody (topS 76) => whnf
  conv at hr in (occs := *) defScope (topS 76) => whnf
  exact ss_cons (s_asg (s_tup (ac (s_callP (fn_okP (ok_exact_rows W)) (hr.mono (by decide)) rfl W.g_exact_rows W.F_exact_rows.kp W.b_exact_rows .nil (by intro _ _ _; simp only [RVs]) (ac (sv 0) (ac (sv 1) (a_nil))) pass0) (ac (s_callP (fn_okP (ok_joint_partings W)) (hr.mono (by decide)) rfl W.g_joint_partings W.F_joint_partings.kp W.b_joint_partings .nil (by intro _ _ _; simp only [RVs]) (ac (s_callB b_len call_lenA rfl W.n_len rfl (ac (s_fld W.facts rfl (n := 2) (show 2 < 13 by decide) (sv 1) rfl) (a_nil))) (a_nil)) pass0) (a_nil)))) (g_seq rfl rfl (gs_cons (gn 2 S.nd) (gs_cons (gn 3 S.nd) (gs_nil))))) (ss_cons (s_set S.nd rfl (by first | exact .inl rfl | exact .inr rfl) (s_new (a_nil))) (ss_cons (s_for PassesOwn.never rfl (i_seq rfl (sv 3)) (gn 5 S.nd) (ss_cons (s_set S.nd rfl (by first | exact .inl rfl | exact .inr rfl) (s_new (a_nil))) (ss_cons (s_for PassesOwn.never rfl (i_seq rfl (sv 3)) (gn 7 S.nd) (ss_cons (s_setLc rfl S.nd rfl rfl (sw_true rfl rfl rfl rfl) (i_N (sv 2)) (own := [("one", 9), ("other", 10)]) (blkOf (by kernel_rfl)) (by decide) (fun _ _ _ _ _ => g_seq rfl rfl (gs_cons (gn 9 S.nd) (gs_cons (gn 10 S.nd) (gs_nil)))) (fun _ _ _ _ _ => pts_one (tand (t_truth rfl (s_callP (fn_okP (ok_is_over W)) (hr.mono (by decide)) rfl W.g_is_over W.F_is_over.kp W.b_is_over .nil (by intro _ _ _; simp only [RVs]) (ac (sv 9) (ac (sv 5) (a_nil))) pass0) (by intro _; rfl)) (t_and1 (t_truth rfl (s_callP (fn_okP (ok_is_over W)) (hr.mono (by decide)) rfl W.g_is_over W.F_is_over.kp W.b_is_over .nil (by intro _ _ _; simp only [RVs]) (ac (sv 10) (ac (sv 7) (a_nil))) pass0) (by intro _; rfl))))) (fun _ _ _ _ _ => s_nix rfl rfl rfl hr.units (sv 2) (s_tup (ac (sv 9) (ac (sv 10) (a_nil)))) (by intro _ _; rfl))) (ss_one (s_expr (s_app (sv 6) (s_callB b_max (call_maxB rfl hr.units) rfl W.n_max rfl (ac (s_lc rfl S.nd (i_seq rfl (sv 8)) (own := [("want", 11)]) (blkOf (by kernel_rfl)) (by decide) (fun _ _ _ _ _ => gn 11 S.nd) (fun _ _ _ _ _ => pts_one (t_cmp (cmp_ok rfl (r65 hr)) .isnot (sv 11) (s_non) rfl)) (fun _ _ _ _ _ => sv 11)) (a_nil)))))))) (ss_fz (ss_one (s_expr (s_app (sv 4) (sv 6)))))))) (ss_fz (ss_one (s_ret (sv 4))))))
theorem sc_made_deed : FnScope ["grade", "joints", "rows"] ["grade", "joints", "rows"] (defScope (topS 77)) := ⟨rfl, rfl, rfl, by decide +kernel, rfl, by decide +kernel, by decide +kernel⟩
theorem ok_made_deed (W : WF P w K mg) : FnOk P w K mg base CX0 8 (He.fAd K ("made_deed", none)) W.fd_made_deed ["grade", "joints", "rows"] (spM (GX P w K) 3 mf_made_deed) := by
  have S := sc_made_deed
  refine fn_okM (N := ["grade", "joints", "rows"]) (b := m_made_deed) W.F_made_deed S fun cdv A outer s H E hr => PSs.nox ?_
  conv in (occs := *) defScope (topS 77) => whnf
  conv in (occs := *) defBody (topS 77) => whnf
  conv at hr in (occs := *) defScope (topS 77) => whnf
  exact ss_one (s_ret (s_make (c := 3) (show 3 < 4 by decide) W.mk_Deed (ok_Deed___init__ W) (hr.mono (by decide)) rfl W.g_Deed W.b_Deed___init__ .nil (by intro _ _ _; simp only [RVs]) (ac (sv 0) (ac (sv 1) (ac (s_if (t_cmp (cmp_ok rfl (r65 hr)) .eq (s_ix rfl (s_ix rfl (sv 2) (s_int) (by intro _ _; rfl)) (s_int) (by intro _ _; rfl)) (s_int) rfl) (sv 2) (s_tup (a_nil))) (a_nil)))) pass0))
theorem sc_after_rows : FnScope ["grade", "joints", "one", "other", "spots", "rows", "row", "paid", "number", "cut", "above", "at"] ["grade", "joints", "one", "other"] (defScope (topS 78)) := ⟨rfl, rfl, rfl, by decide +kernel, rfl, by decide +kernel, by decide +kernel⟩
theorem ok_after_rows (W : WF P w K mg) : FnOk P w K mg base CX0 2 (He.fAd K ("after_rows", none)) W.fd_after_rows ["grade", "joints", "one", "other"] (spM (GX P w K) 4 mf_after_rows) := by
  have S := sc_after_rows
  refine fn_okM (N := ["grade", "joints", "one", "other", "spots", "rows", "row", "paid", "number", "cut", "above", "at"]) (b := m_after_rows) W.F_after_rows S fun cdv A outer s H E hr => PSs.nox ?_
  conv in (occs := *) defScope (topS 78) => whnf
  conv in (occs := *) defBody (topS 78) => whnf
  conv at hr in (occs := *) defScope (topS 78) => whnf
  exact ss_cons (s_set S.nd rfl (by first | exact .inl rfl | exact .inr rfl) (s_callTy b_rng cr_range1 rfl W.n_range rfl (ac (s_callB b_len call_lenA rfl W.n_len rfl (ac (s_callP (fn_okP (ok_cuts_of W)) (hr.mono (by decide)) rfl W.g_cuts_of W.F_cuts_of.kp W.b_cuts_of .nil (by intro _ _ _; simp only [RVs]) (ac (sv 1) (a_nil)) pass0) (a_nil))) (a_nil)))) (ss_cons (s_set S.nd rfl (by first | exact .inl rfl | exact .inr rfl) (s_new (a_nil))) (ss_cons (s_for PassesOwn.never rfl (i_seq rfl (sv 2)) (gn 6 S.nd) (ss_cons (s_set S.nd rfl (by first | exact .inl rfl | exact .inr rfl) (s_lc rfl S.nd (i_zip2 rfl rfl W.n_zip (sv 6) (s_callP (fn_okP (ok_cuts_of W)) (hr.mono (by decide)) rfl W.g_cuts_of W.F_cuts_of.kp W.b_cuts_of .nil (by intro _ _ _; simp only [RVs]) (ac (sv 1) (a_nil)) pass0)) (own := [("number", 8), ("cut", 9)]) (blkOf (by kernel_rfl)) (by decide) (fun _ _ _ _ _ => g_seq rfl rfl (gs_cons (gn 8 S.nd) (gs_cons (gn 9 S.nd) (gs_nil)))) (fun _ _ _ _ _ => pts_yes) (fun _ _ _ _ _ => s_bin rfl .sub (sv 8) (s_bin rfl .mul (sv 0) (sv 9))))) (ss_one (s_expr (s_app (sv 5) (s_lc rfl S.nd (i_rv (sv 4)) (own := [("above", 10)]) (blkOf (by kernel_rfl)) (by decide) (fun _ _ _ _ _ => gn 10 S.nd) (fun _ _ _ _ _ => pts_yes) (fun _ _ _ _ _ => s_callB b_max (call_maxB rfl hr.units) rfl W.n_max rfl (ac (s_lc rfl S.nd (i_rv (sv 4)) (own := [("at", 11)]) (blkOf (by kernel_rfl)) (by decide) (fun _ _ _ _ _ => gn 11 S.nd) (fun _ _ _ _ _ => pts_yes) (fun _ _ _ _ _ => s_bin rfl .add (s_ix rfl (sv 7) (sv 11) (by intro _ _; rfl)) (s_ix rfl (s_ix rfl (sv 3) (sv 11) (by intro _ _; rfl)) (sv 10) (by intro _ _; rfl)))) (a_nil))))))))) (ss_fz (ss_one (s_ret (sv 5))))))
theorem sc_put_after : FnScope ["one", "other"] ["one", "other"] (defScope (topS 79)) := ⟨rfl, rfl, rfl, by decide +kernel, rfl, by decide +kernel, by decide +kernel⟩
theorem ok_put_after (W : WF P w K mg) : FnOk P w K mg base CX0 9 (He.fAd K ("put_after", none)) W.fd_put_after ["one", "other"] (spM (GX P w K) 2 mf_put_after) := by
  have S := sc_put_after
  refine fn_okM (N := ["one", "other"]) (b := m_put_after) W.F_put_after S fun cdv A outer s H E hr => PSs.nox ?_
  conv in (occs := *) defScope (topS 79) => whnf
  conv in (occs := *) defBody (topS 79) => whnf
  conv at hr in (occs := *) defScope (topS 79) => whnf
  exact ss_cons (s_ifS (tor (t_cmp (cmp_ok rfl (r65 hr)) .eq (s_fld W.facts rfl (n := 12) (show 12 < 13 by decide) (sv 0) rfl) (s_tup (a_nil)) rfl) (t_or1 (t_cmp (cmp_ok rfl (r65 hr)) .eq (s_fld W.facts rfl (n := 12) (show 12 < 13 by decide) (sv 1) rfl) (s_tup (a_nil)) rfl))) (ss_one (s_ret (s_callP (fn_okP (ok_lost_deed W)) (hr.mono (by decide)) rfl W.g_lost_deed W.F_lost_deed.kp W.b_lost_deed .nil (by intro _ _ _; simp only [RVs]) (ac (s_fld W.facts rfl (n := 8) (show 8 < 13 by decide) (sv 0) rfl) (ac (s_fld W.facts rfl (n := 6) (show 6 < 13 by decide) (sv 0) rfl) (a_nil))) pass0))) (ss_nil)) (ss_one (s_ret (s_callP (fn_okP (ok_made_deed W)) (hr.mono (by decide)) rfl W.g_made_deed W.F_made_deed.kp W.b_made_deed .nil (by intro _ _ _; simp only [RVs]) (ac (s_fld W.facts rfl (n := 8) (show 8 < 13 by decide) (sv 0) rfl) (ac (s_fld W.facts rfl (n := 6) (show 6 < 13 by decide) (sv 0) rfl) (ac (s_callP (fn_okP (ok_after_rows W)) (hr.mono (by decide)) rfl W.g_after_rows W.F_after_rows.kp W.b_after_rows .nil (by intro _ _ _; simp only [RVs]) (ac (s_fld W.facts rfl (n := 8) (show 8 < 13 by decide) (sv 0) rfl) (ac (s_fld W.facts rfl (n := 6) (show 6 < 13 by decide) (sv 0) rfl) (ac (s_fld W.facts rfl (n := 12) (show 12 < 13 by decide) (sv 0) rfl) (ac (s_fld W.facts rfl (n := 12) (show 12 < 13 by decide) (sv 1) rfl) (a_nil))))) pass0) (a_nil)))) pass0)))
theorem sc_deed_of_names : FnScope ["kit", "deeds", "names", "found", "name"] ["kit", "deeds", "names"] (defScope (topS 80)) := ⟨rfl, rfl, rfl, by decide +kernel, rfl, by decide +kernel, by decide +kernel⟩
theorem ok_deed_of_names (W : WF P w K mg) : FnOk P w K mg base CX0 10 (He.fAd K ("deed_of_names", none)) W.fd_deed_of_names ["kit", "deeds", "names"] (spM (GX P w K) 3 mf_deed_of_names) := by
  have S := sc_deed_of_names
  refine fn_okM (N := ["kit", "deeds", "names", "found", "name"]) (b := m_deed_of_names) W.F_deed_of_names S fun cdv A outer s H E hr => PSs.nox ?_
  conv in (occs := *) defScope (topS 80) => whnf
  conv in (occs := *) defBody (topS 80) => whnf
  conv at hr in (occs := *) defScope (topS 80) => whnf
  exact ss_cons (s_set S.nd rfl (by first | exact .inl rfl | exact .inr rfl) (s_make (c := 3) (show 3 < 4 by decide) W.mk_Deed (ok_Deed___init__ W) (hr.mono (by decide)) rfl W.g_Deed W.b_Deed___init__ .nil (by intro _ _ _; simp only [RVs]) (ac (s_fld W.facts rfl (n := 8) (show 8 < 13 by decide) (sv 0) rfl) (ac (s_fld W.facts rfl (n := 6) (show 6 < 13 by decide) (sv 0) rfl) (ac (s_callP (fn_okP (ok_empty_rows W)) (hr.mono (by decide)) rfl W.g_empty_rows W.F_empty_rows.kp W.b_empty_rows .nil (by intro _ _ _; simp only [RVs]) (ac (s_fld W.facts rfl (n := 8) (show 8 < 13 by decide) (sv 0) rfl) (ac (s_fld W.facts rfl (n := 6) (show 6 < 13 by decide) (sv 0) rfl) (a_nil))) pass0) (a_nil)))) pass0)) (ss_cons (s_for PassesOwn.never rfl (i_seq rfl (sv 2)) (gn 4 S.nd) (ss_one (s_set S.nd rfl (by first | exact .inl rfl | exact .inr rfl) (s_callP (fn_okP (ok_put_after W)) (hr.mono (by decide)) rfl W.g_put_after W.F_put_after.kp W.b_put_after .nil (by intro _ _ _; simp only [RVs]) (ac (sv 3) (ac (s_dix (r1 hr) (sv 1) (sv 4) (by intro _ _; rfl)) (a_nil))) pass0)))) (ss_one (s_ret (sv 3))))
theorem sc_kind_deeds : FnScope ["kit", "one"] ["kit"] (defScope (topS 81)) := ⟨rfl, rfl, rfl, by decide +kernel, rfl, by decide +kernel, by decide +kernel⟩
theorem ok_kind_deeds (W : WF P w K mg) : FnOk P w K mg base CX0 9 (He.fAd K ("kind_deeds", none)) W.fd_kind_deeds ["kit"] (spM (GX P w K) 1 mf_kind_deeds) := by
  have S := sc_kind_deeds
  refine fn_okM (N := ["kit", "one"]) (b := m_kind_deeds) W.F_kind_deeds S fun cdv A outer s H E hr => PSs.nox ?_
  conv in (occs := *) defScope (topS 81) => whnf
  conv in (occs := *) defBody (topS 81) => whnf
  conv at hr in (occs := *) defScope (topS 81) => whnf
  exact ss_one (s_ret (s_dc rfl S.nd (i_seq rfl (s_fld W.facts rfl (n := 7) (show 7 < 13 by decide) (sv 0) rfl)) (own := [("one", 1)]) (blkOf (by kernel_rfl)) (by decide) (fun _ _ _ _ _ => gn 1 S.nd) (fun _ _ _ _ _ => pts_yes) (fun _ _ _ _ _ => s_fld W.facts rfl (n := 0) (show 0 < 13 by decide) (sv 1) rfl) (fun _ _ _ _ _ => s_callP (fn_okP (ok_made_deed W)) (hr.mono (by decide)) rfl W.g_made_deed W.F_made_deed.kp W.b_made_deed .nil (by intro _ _ _; simp only [RVs]) (ac (s_fld W.facts rfl (n := 8) (show 8 < 13 by decide) (sv 0) rfl) (ac (s_fld W.facts rfl (n := 6) (show 6 < 13 by decide) (sv 0) rfl) (ac (s_callP (fn_okP (ok_kind_rows W)) (hr.mono (by decide)) rfl W.g_kind_rows W.F_kind_rows.kp W.b_kind_rows .nil (by intro _ _ _; simp only [RVs]) (ac (s_fld W.facts rfl (n := 8) (show 8 < 13 by decide) (sv 0) rfl) (ac (sv 1) (a_nil))) pass0) (a_nil)))) pass0)))
theorem sc_empty_deed : FnScope ["kit", "told"] ["kit"] (defScope (topS 82)) := ⟨rfl, rfl, rfl, by decide +kernel, rfl, by decide +kernel, by decide +kernel⟩
theorem ok_empty_deed (W : WF P w K mg) : FnOk P w K mg base CX0 8 (He.fAd K ("empty_deed", none)) W.fd_empty_deed ["kit"] (spM (GX P w K) 1 mf_empty_deed) := by
  have S := sc_empty_deed
  refine fn_okM (N := ["kit", "told"]) (b := m_empty_deed) W.F_empty_deed S fun cdv A outer s H E hr => PSs.nox ?_
  conv in (occs := *) defScope (topS 82) => whnf
  conv in (occs := *) defBody (topS 82) => whnf
  conv at hr in (occs := *) defScope (topS 82) => whnf
  exact ss_cons (s_set S.nd rfl (by first | exact .inl rfl | exact .inr rfl) (s_callP (fn_okP (ok_need_kit W)) (hr.mono (by decide)) rfl W.g_need_kit W.F_need_kit.kp W.bd1_need_kit.choose_spec.2 W.bd1_need_kit.choose_spec.1 (by intro _ _ _; simp [RVs, RV]) (ac (sv 0) (a_nil)) pass0)) (ss_one (s_ret (s_make (c := 3) (show 3 < 4 by decide) W.mk_Deed (ok_Deed___init__ W) (hr.mono (by decide)) rfl W.g_Deed W.b_Deed___init__ .nil (by intro _ _ _; simp only [RVs]) (ac (s_fld W.facts rfl (n := 8) (show 8 < 13 by decide) (sv 1) rfl) (ac (s_fld W.facts rfl (n := 6) (show 6 < 13 by decide) (sv 1) rfl) (ac (s_callP (fn_okP (ok_empty_rows W)) (hr.mono (by decide)) rfl W.g_empty_rows W.F_empty_rows.kp W.b_empty_rows .nil (by intro _ _ _; simp only [RVs]) (ac (s_fld W.facts rfl (n := 8) (show 8 < 13 by decide) (sv 1) rfl) (ac (s_fld W.facts rfl (n := 6) (show 6 < 13 by decide) (sv 1) rfl) (a_nil))) pass0) (a_nil)))) pass0)))
theorem sc_kind_deed : FnScope ["kit", "name", "told"] ["kit", "name"] (defScope (topS 83)) := ⟨rfl, rfl, rfl, by decide +kernel, rfl, by decide +kernel, by decide +kernel⟩
theorem ok_kind_deed (W : WF P w K mg) : FnOk P w K mg base CX0 9 (He.fAd K ("kind_deed", none)) W.fd_kind_deed ["kit", "name"] (spM (GX P w K) 2 mf_kind_deed) := by
  have S := sc_kind_deed
  refine fn_okM (N := ["kit", "name", "told"]) (b := m_kind_deed) W.F_kind_deed S fun cdv A outer s H E hr => PSs.nox ?_
  conv in (occs := *) defScope (topS 83) => whnf
  conv in (occs := *) defBody (topS 83) => whnf
  conv at hr in (occs := *) defScope (topS 83) => whnf
  exact ss_cons (s_set S.nd rfl (by first | exact .inl rfl | exact .inr rfl) (s_callP (fn_okP (ok_need_kit W)) (hr.mono (by decide)) rfl W.g_need_kit W.F_need_kit.kp W.bd1_need_kit.choose_spec.2 W.bd1_need_kit.choose_spec.1 (by intro _ _ _; simp [RVs, RV]) (ac (sv 0) (a_nil)) pass0)) (ss_one (s_ret (s_callP (fn_okP (ok_made_deed W)) (hr.mono (by decide)) rfl W.g_made_deed W.F_made_deed.kp W.b_made_deed .nil (by intro _ _ _; simp only [RVs]) (ac (s_fld W.facts rfl (n := 8) (show 8 < 13 by decide) (sv 2) rfl) (ac (s_fld W.facts rfl (n := 6) (show 6 < 13 by decide) (sv 2) rfl) (ac (s_callP (fn_okP (ok_kind_rows W)) (hr.mono (by decide)) rfl W.g_kind_rows W.F_kind_rows.kp W.b_kind_rows .nil (by intro _ _ _; simp only [RVs]) (ac (s_fld W.facts rfl (n := 8) (show 8 < 13 by decide) (sv 2) rfl) (ac (s_meth (c := 1) W.nm_kind (sv 2) W.cl_Kit W.mt_Kit_kind (fn_okP (ok_Kit_kind W)) (hr.mono (by decide)) W.b_Kit_kind .nil (by intro _ _ _; simp only [RVs]) (ac (sv 1) (a_nil)) pass0) (a_nil))) pass0) (a_nil)))) pass0)))
theorem sc_deed_of : FnScope ["word", "told"] ["word"] (defScope (topS 84)) := ⟨rfl, rfl, rfl, by decide +kernel, rfl, by decide +kernel, by decide +kernel⟩
theorem ok_deed_of (W : WF P w K mg) : FnOk P w K mg base CX0 11 (He.fAd K ("deed_of", none)) W.fd_deed_of ["word"] (spM (GX P w K) 1 mf_deed_of) := by
  have S := sc_deed_of
  refine fn_okM (N := ["word", "told"]) (b := m_deed_of) W.F_deed_of S fun cdv A outer s H E hr => PSs.nox ?_
  conv in (occs := *) defScope (topS 84) => whnf
  conv in (occs := *) defBody (topS 84) => whnf
  conv at hr in (occs := *) defScope (topS 84) => whnf
  exact ss_cons (s_set S.nd rfl (by first | exact .inl rfl | exact .inr rfl) (s_callP (fn_okP (ok_need_word W)) (hr.mono (by decide)) rfl W.g_need_word W.F_need_word.kp W.bd1_need_word.choose_spec.2 W.bd1_need_word.choose_spec.1 (by intro _ _ _; simp [RVs, RV]) (ac (sv 0) (a_nil)) pass0)) (ss_one (s_ret (s_callP (fn_okP (ok_deed_of_names W)) (hr.mono (by decide)) rfl W.g_deed_of_names W.F_deed_of_names.kp W.b_deed_of_names .nil (by intro _ _ _; simp only [RVs]) (ac (s_fld W.facts rfl (n := 10) (show 10 < 13 by decide) (sv 1) rfl) (ac (s_callP (fn_okP (ok_kind_deeds W)) (hr.mono (by decide)) rfl W.g_kind_deeds W.F_kind_deeds.kp W.b_kind_deeds .nil (by intro _ _ _; simp only [RVs]) (ac (s_fld W.facts rfl (n := 10) (show 10 < 13 by decide) (sv 1) rfl) (a_nil)) pass0) (ac (s_fld W.facts rfl (n := 9) (show 9 < 13 by decide) (sv 1) rfl) (a_nil)))) pass0)))
theorem sc_may_swap : FnScope ["one", "other"] ["one", "other"] (defScope (topS 86)) := ⟨rfl, rfl, rfl, by decide +kernel, rfl, by decide +kernel, by decide +kernel⟩
theorem ok_may_swap (W : WF P w K mg) : FnOk P w K mg base CX0 12 (He.fAd K ("may_swap", none)) W.fd_may_swap ["one", "other"] (spM (GX P w K) 2 mf_may_swap) := by
  have S := sc_may_swap
  refine fn_okM (N := ["one", "other"]) (b := m_may_swap) W.F_may_swap S fun cdv A outer s H E hr => PSs.nox ?_
  conv in (occs := *) defScope (topS 86) => whnf
  conv in (occs := *) defBody (topS 86) => whnf
  conv at hr in (occs := *) defScope (topS 86) => whnf
  exact ss_cons (s_expr (s_callP (fn_okP (ok_need_two_words W)) (hr.mono (by decide)) rfl W.g_need_two_words W.F_need_two_words.kp W.b_need_two_words .nil (by intro _ _ _; simp only [RVs]) (ac (sv 0) (ac (sv 1) (a_nil))) pass0)) (ss_one (s_ret (s_ownEq (fn_okP (ok_Deed___eq__ W)) (hr.mono (by decide)) W.b_Deed___eq__ pass0 W.own_Deed (s_callP (fn_okP (ok_deed_of W)) (hr.mono (by decide)) rfl W.g_deed_of W.F_deed_of.kp W.b_deed_of .nil (by intro _ _ _; simp only [RVs]) (ac (sv 0) (a_nil)) pass0) (s_callP (fn_okP (ok_deed_of W)) (hr.mono (by decide)) rfl W.g_deed_of W.F_deed_of.kp W.b_deed_of .nil (by intro _ _ _; simp only [RVs]) (ac (sv 1) (a_nil)) pass0) rfl)))
theorem sc__law_pen : FnScope ["script", "cell"] ["script"] (defScope (topS 88)) := ⟨rfl, rfl, rfl, by decide +kernel, rfl, by decide +kernel, by decide +kernel⟩
theorem ok__law_pen (W : WF P w K mg) : FnOk P w K mg base CX0 1 (He.fAd K ("_law_pen", none)) W.fd__law_pen ["script"] (spM (GX P w K) 1 mf__law_pen) := by
  have S := sc__law_pen
  refine fn_okM (N := ["script", "cell"]) (b := m__law_pen) W.F__law_pen S fun cdv A outer s H E hr => PSs.nox ?_
  conv in (occs := *) defScope (topS 88) => whnf
  conv in (occs := *) defBody (topS 88) => whnf
  conv at hr in (occs := *) defScope (topS 88) => whnf
  exact ss_one (s_ret (s_new (ac (s_lc rfl S.nd (i_seq rfl (s_sl rfl (sv 0) (o_none) (o_some (s_int)))) (own := [("cell", 1)]) (blkOf (by kernel_rfl)) (by decide) (fun _ _ _ _ _ => gn 1 S.nd) (fun _ _ _ _ _ => pts_yes) (fun _ _ _ _ _ => s_callTy b_int call_int1 rfl W.n_int rfl (ac (sv 1) (a_nil)))) (ac (s_int) (ac (s_int) (a_nil))))))
theorem sc__law_draw : FnScope ["pen", "many", "rest", "turn", "cell", "mixed"] ["pen", "many"] (defScope (topS 89)) := ⟨rfl, rfl, rfl, by decide +kernel, rfl, by decide +kernel, by decide +kernel⟩
theorem ok__law_draw (W : WF P w K mg) : FnOk P w K mg base CX0 1 (He.fAd K ("_law_draw", none)) W.fd__law_draw ["pen", "many"] (spM (GX P w K) 2 mf__law_draw) := by
  have S := sc__law_draw
  refine fn_okM (N := ["pen", "many", "rest", "turn", "cell", "mixed"]) (b := m__law_draw) W.F__law_draw S fun cdv A outer s H E hr => PSs.nox ?_
  conv in (occs := *) defScope (topS 89) => whnf
  conv in (occs := *) defBody (topS 89) => whnf
  conv at hr in (occs := *) defScope (topS 89) => whnf
  exact ss_cons (s_ifS (t_cmp (cmp_ok rfl (r65 hr)) .gt (s_ix rfl (sv 0) (s_int) (by intro _ _; rfl)) (s_int) rfl) (ss_cons (s_set S.nd rfl (by first | exact .inl rfl | exact .inr rfl) (s_callTy b_int call_int1 rfl W.n_int rfl (ac (s_ix rfl (sv 0) (s_int) (by intro _ _; rfl)) (a_nil)))) (ss_cons (s_item (sv 0) (s_int) (s_bin rfl .fdiv (sv 2) (sv 1))) (ss_one (s_ret (s_bin rfl .mod (s_callTy b_int call_int1 rfl W.n_int rfl (ac (sv 2) (a_nil))) (sv 1)))))) (ss_nil)) (ss_cons (s_set S.nd rfl (by first | exact .inl rfl | exact .inr rfl) (s_ix rfl (sv 0) (s_int) (by intro _ _; rfl))) (ss_cons (s_item (sv 0) (s_int) (s_bin rfl .add (sv 3) (s_int))) (ss_cons (s_set S.nd rfl (by first | exact .inl rfl | exact .inr rfl) (s_bin rfl .add (s_bin rfl .mul (s_int) (sv 3)) (s_int))) (ss_cons (s_ifS (t_cmp (cmp_ok rfl (r65 hr)) .ne (s_ix rfl (sv 0) (s_int) (by intro _ _; rfl)) (s_lst (a_nil)) rfl) (ss_one (s_set S.nd rfl (by first | exact .inl rfl | exact .inr rfl) (s_ix rfl (s_ix rfl (sv 0) (s_int) (by intro _ _; rfl)) (s_bin rfl .mod (s_callTy b_int call_int1 rfl W.n_int rfl (ac (sv 3) (a_nil))) (s_callB b_len call_lenA rfl W.n_len rfl (ac (s_ix rfl (sv 0) (s_int) (by intro _ _; rfl)) (a_nil)))) (by intro _ _; rfl)))) (ss_nil)) (ss_cons (s_ifS (tand (t_cmp (cmp_ok rfl (r65 hr)) .lt (sv 3) (s_callB b_len call_lenA rfl W.n_len rfl (ac (s_ix rfl (sv 0) (s_int) (by intro _ _; rfl)) (a_nil))) rfl) (t_and1 (t_cmp (cmp_ok rfl (r65 hr)) .ge (s_callB b_abs call_abs rfl W.n_abs rfl (ac (sv 4) (a_nil))) (s_bin rfl .pow (s_int) (s_int)) rfl))) (ss_cons (s_set S.nd rfl (by first | exact .inl rfl | exact .inr rfl) (s_bin rfl .add (s_bin rfl .mul (s_int) (s_bin rfl .sub (s_callB b_abs call_abs rfl W.n_abs rfl (ac (sv 4) (a_nil))) (s_bin rfl .pow (s_int) (s_int)))) (s_callTy b_int call_int1 rfl W.n_int rfl (ac (s_cmp (cmp_ok rfl (r65 hr)) .lt (sv 4) (s_int) rfl) (a_nil))))) (ss_cons (s_item (sv 0) (s_int) (s_bin rfl .fdiv (s_callTy b_int call_int1 rfl W.n_int rfl (ac (sv 2) (a_nil))) (sv 1))) (ss_one (s_ret (s_bin rfl .mod (s_callTy b_int call_int1 rfl W.n_int rfl (ac (sv 2) (a_nil))) (sv 1)))))) (ss_nil)) (ss_cons (s_set S.nd rfl (by first | exact .inl rfl | exact .inr rfl) (s_bin rfl .mod (s_callTy b_int call_int1 rfl W.n_int rfl (ac (s_bin rfl .pow (s_bin rfl .add (s_bin rfl .add (s_bin rfl .mod (s_callTy b_int call_int1 rfl W.n_int rfl (ac (sv 4) (a_nil))) (s_int)) (s_bin rfl .mul (s_int) (sv 3))) (s_int)) (s_int)) (a_nil))) (s_int))) (ss_cons (s_set S.nd rfl (by first | exact .inl rfl | exact .inr rfl) (s_bin rfl .mod (s_callTy b_int call_int1 rfl W.n_int rfl (ac (s_bin rfl .pow (s_bin rfl .add (s_bin rfl .add (s_bin rfl .mul (sv 5) (s_bin rfl .add (s_bin rfl .mul (s_int) (sv 3)) (s_int))) (s_bin rfl .mul (s_bin rfl .mul (s_int) (sv 3)) (sv 3))) (s_int)) (s_int)) (a_nil))) (s_int))) (ss_one (s_ret (s_bin rfl .mod (s_callTy b_int call_int1 rfl W.n_int rfl (ac (s_bin rfl .fdiv (sv 5) (s_int)) (a_nil))) (sv 1)))))))))))
theorem sc__law_pick : FnScope ["pen", "some"] ["pen", "some"] (defScope (topS 90)) := ⟨rfl, rfl, rfl, by decide +kernel, rfl, by decide +kernel, by decide +kernel⟩
theorem ok__law_pick (W : WF P w K mg) : FnOk P w K mg base CX0 2 (He.fAd K ("_law_pick", none)) W.fd__law_pick ["pen", "some"] (spM (GX P w K) 2 mf__law_pick) := by
  have S := sc__law_pick
  refine fn_okM (N := ["pen", "some"]) (b := m__law_pick) W.F__law_pick S fun cdv A outer s H E hr => PSs.nox ?_
  conv in (occs := *) defScope (topS 90) => whnf
  conv in (occs := *) defBody (topS 90) => whnf
  conv at hr in (occs := *) defScope (topS 90) => whnf
  exact ss_one (s_ret (s_ix rfl (sv 1) (s_call (ok__law_draw W) (hr.mono (by decide)) rfl W.g__law_draw W.F__law_draw.kp W.b__law_draw .nil (by intro _ _ _; simp only [RVs]) (ac (sv 0) (ac (s_callB b_len call_lenA rfl W.n_len rfl (ac (sv 1) (a_nil))) (a_nil))) pass0) (by intro _ _; rfl)))
theorem sc__law_ce_partings : FnScope ["many", "found", "turn", "longer", "one", "block"] ["many"] (defScope (topS 91)) := ⟨rfl, rfl, rfl, by decide +kernel, rfl, by decide +kernel, by decide +kernel⟩
theorem ok__law_ce_partings (W : WF P w K mg) : FnOk P w K mg base CX0 1 (He.fAd K ("_law_ce_partings", none)) W.fd__law_ce_partings ["many"] (spM (GX P w K) 1 mf__law_ce_partings) := by
  have S := sc__law_ce_partings
  refine fn_okM (N := ["many", "found", "turn", "longer", "one", "block"]) (b := m__law_ce_partings) W.F__law_ce_partings S fun cdv A outer s H E hr => PSs.nox ?_
  conv in (occs := *) defScope (topS 91) => whnf
  conv in (occs := *) defBody (topS 91) => whnf
  conv at hr in (occs := *) defScope (topS 91) => whnf
  exact ss_cons (s_set S.nd rfl (by first | exact .inl rfl | exact .inr rfl) (s_lst (ac (s_tup (a_nil)) (a_nil)))) (ss_cons (s_for PassesOwn.never rfl (i_rng1 rfl W.n_range (sv 0)) (gn 2 S.nd) (ss_cons (s_set S.nd rfl (by first | exact .inl rfl | exact .inr rfl) (s_new (a_nil))) (ss_cons (s_for PassesOwn.never rfl (i_seq rfl (sv 1)) (gn 4 S.nd) (ss_one (s_expr (s_ext (sv 3) (s_lc rfl S.nd (i_rng1 rfl W.n_range (s_if (t_cmp (cmp_ok rfl (r65 hr)) .ne (sv 4) (s_tup (a_nil)) rfl) (s_bin rfl .add (s_int) (s_callB b_max (call_maxB rfl hr.units) rfl W.n_max rfl (ac (sv 4) (a_nil)))) (s_int))) (own := [("block", 5)]) (blkOf (by kernel_rfl)) (by decide) (fun _ _ _ _ _ => gn 5 S.nd) (fun _ _ _ _ _ => pts_yes) (fun _ _ _ _ _ => s_bin rfl .add (sv 4) (s_tup (ac (sv 5) (a_nil))))))))) (ss_fz (ss_one (s_set S.nd rfl (by first | exact .inl rfl | exact .inr rfl) (sv 3))))))) (ss_one (s_ret (sv 1))))
theorem sc__law_ce_told : FnScope ["labels", "known", "label"] ["labels"] (defScope (topS 92)) := ⟨rfl, rfl, rfl, by decide +kernel, rfl, by decide +kernel, by decide +kernel⟩
theorem ok__law_ce_told (W : WF P w K mg) : FnOk P w K mg base CX0 1 (He.fAd K ("_law_ce_told", none)) W.fd__law_ce_told ["labels"] (spM (GX P w K) 1 mf__law_ce_told) := by
  have S := sc__law_ce_told
  refine fn_okM (N := ["labels", "known", "label"]) (b := m__law_ce_told) W.F__law_ce_told S fun cdv A outer s H E hr => PSs.nox ?_
  conv in (occs := *) defScope (topS 92) => whnf
  conv in (occs := *) defBody (topS 92) => whnf
  conv at hr in (occs := *) defScope (topS 92) => whnf
  exact ss_cons (s_set S.nd rfl (by first | exact .inl rfl | exact .inr rfl) (s_dnew)) (ss_one (s_ret (s_callTy b_tupleX call_tupleX rfl W.n_tuple rfl (ac (s_lc rfl S.nd (i_seq rfl (sv 0)) (own := [("label", 2)]) (blkOf (by kernel_rfl)) (by decide) (fun _ _ _ _ _ => gn 2 S.nd) (fun _ _ _ _ _ => pts_yes) (fun _ _ _ _ _ => s_dsd (sv 1) (sv 2) (s_callB b_len call_lenA rfl W.n_len rfl (ac (sv 1) (a_nil))) ⟨rfl, rfl, rfl, rfl⟩)) (a_nil)))))
theorem sc__law_ce_over : FnScope ["one", "other"] ["one", "other"] (defScope (topS 93)) := ⟨rfl, rfl, rfl, by decide +kernel, rfl, by decide +kernel, by decide +kernel⟩
theorem ok__law_ce_over (W : WF P w K mg) : FnOk P w K mg base CX0 1 (He.fAd K ("_law_ce_over", none)) W.fd__law_ce_over ["one", "other"] (spM (GX P w K) 2 mf__law_ce_over) := by
  have S := sc__law_ce_over
  refine fn_okM (N := ["one", "other"]) (b := m__law_ce_over) W.F__law_ce_over S fun cdv A outer s H E hr => PSs.nox ?_
  conv in (occs := *) defScope (topS 93) => whnf
  conv in (occs := *) defBody (topS 93) => whnf
  conv at hr in (occs := *) defScope (topS 93) => whnf
  exact ss_one (s_ret (s_cmp (cmp_ok rfl (r65 hr)) .eq (s_len2 rfl rfl hr.units rfl W.n_len rfl W.n_set (s_lz rfl rfl rfl W.n_list rfl W.n_zip (ac (sv 1) (ac (sv 0) (a_nil))))) (s_len2 rfl rfl hr.units rfl W.n_len rfl W.n_set (sv 1)) rfl))
theorem sc__law_ce_join : FnScope ["one", "other", "labels", "at", "spot", "mine", "its", "here"] ["one", "other"] (defScope (topS 94)) := ⟨rfl, rfl, rfl, by decide +kernel, rfl, by decide +kernel, by decide +kernel⟩
theorem ok__law_ce_join (W : WF P w K mg) : FnOk P w K mg base CX0 2 (He.fAd K ("_law_ce_join", none)) W.fd__law_ce_join ["one", "other"] (spM (GX P w K) 2 mf__law_ce_join) := by
  have S := sc__law_ce_join
  refine fn_okM (N := ["one", "other", "labels", "at", "spot", "mine", "its", "here"]) (b := m__law_ce_join) W.F__law_ce_join S fun cdv A outer s H E hr => PSs.nox ?_
  conv in (occs := *) defScope (topS 94) => whnf
  conv in (occs := *) defBody (topS 94) => whnf
  conv at hr in (occs := *) defScope (topS 94) => whnf
  exact ss_cons (s_set S.nd rfl (by first | exact .inl rfl | exact .inr rfl) (s_callTy b_list call_list_of rfl W.n_list rfl (ac (sv 0) (a_nil)))) (ss_cons (s_for PassesOwn.never rfl (i_rng1 rfl W.n_range (s_callB b_len call_lenA rfl W.n_len rfl (ac (sv 2) (a_nil)))) (gn 3 S.nd) (ss_one (s_for PassesOwn.never rfl (i_rng1 rfl W.n_range (sv 3)) (gn 4 S.nd) (ss_one (s_ifS (t_cmp (cmp_ok rfl (r65 hr)) .eq (s_ix rfl (sv 1) (sv 3) (by intro _ _; rfl)) (s_ix rfl (sv 1) (sv 4) (by intro _ _; rfl)) rfl) (ss_cons (s_asg (s_tup (ac (s_ix rfl (sv 2) (sv 3) (by intro _ _; rfl)) (ac (s_ix rfl (sv 2) (sv 4) (by intro _ _; rfl)) (a_nil)))) (g_seq rfl rfl (gs_cons (gn 5 S.nd) (gs_cons (gn 6 S.nd) (gs_nil))))) (ss_one (s_setLc rfl S.nd rfl rfl (sw_true rfl rfl rfl rfl) (i_seq rfl (sv 2)) (own := [("here", 7)]) (blkOf (by kernel_rfl)) (by decide) (fun _ _ _ _ _ => gn 7 S.nd) (fun _ _ _ _ _ => pts_yes) (fun _ _ _ _ _ => s_if (t_cmp (cmp_ok rfl (r65 hr)) .isin (sv 7) (s_tup (ac (sv 5) (ac (sv 6) (a_nil)))) rfl) (s_callB b_min (call_minB rfl hr.units) rfl W.n_min rfl (ac (sv 5) (ac (sv 6) (a_nil)))) (sv 7))))) (ss_nil)))))) (ss_one (s_ret (s_callP (fn_okP (ok__law_ce_told W)) (hr.mono (by decide)) rfl W.g__law_ce_told W.F__law_ce_told.kp W.b__law_ce_told .nil (by intro _ _ _; simp only [RVs]) (ac (sv 2) (a_nil)) pass0))))
theorem sc__law_ce_through : FnScope ["name", "turned", "pairs", "low", "high", "at", "spot", "one", "other"] ["name", "turned", "pairs"] (defScope (topS 95)) := ⟨rfl, rfl, rfl, by decide +kernel, rfl, by decide +kernel, by decide +kernel⟩
theorem ok__law_ce_through (W : WF P w K mg) : FnOk P w K mg base CX0 1 (He.fAd K ("_law_ce_through", none)) W.fd__law_ce_through ["name", "turned", "pairs"] (spM (GX P w K) 3 mf__law_ce_through) := by
  have S := sc__law_ce_through
  refine fn_okM (N := ["name", "turned", "pairs", "low", "high", "at", "spot", "one", "other"]) (b := m__law_ce_through) W.F__law_ce_through S fun cdv A outer s H E hr => PSs.nox ?_
  conv in (occs := *) defScope (topS 95) => whnf
  conv in (occs := *) defBody (topS 95) => whnf
  conv at hr in (occs := *) defScope (topS 95) => whnf
  exact ss_cons (s_set S.nd rfl (by first | exact .inl rfl | exact .inr rfl) (s_callTy b_tupleX call_tupleX rfl W.n_tuple rfl (ac (s_lc rfl S.nd (i_rng1 rfl W.n_range (s_callB b_len call_lenA rfl W.n_len rfl (ac (sv 1) (a_nil)))) (own := [("at", 5)]) (blkOf (by kernel_rfl)) (by decide) (fun _ _ _ _ _ => gn 5 S.nd) (fun _ _ _ _ _ => pts_yes) (fun _ _ _ _ _ => s_bin rfl .add (s_str) (s_callTy b_str call_strA rfl W.n_str rfl (ac (sv 5) (a_nil))))) (a_nil)))) (ss_cons (s_set S.nd rfl (by first | exact .inl rfl | exact .inr rfl) (s_repN (s_lst (ac (s_str) (a_nil))) (s_callB b_len call_lenA rfl W.n_len rfl (ac (sv 1) (a_nil))))) (ss_cons (s_for PassesOwn.never rfl (i_enum rfl rfl W.n_enumerate (sv 1)) (g_seq rfl rfl (gs_cons (gn 5 S.nd) (gs_cons (gn 6 S.nd) (gs_nil)))) (ss_one (s_item (sv 4) (sv 6) (s_ix rfl (sv 3) (sv 5) (by intro _ _; rfl))))) (ss_one (s_ret (s_tup (ac (sv 0) (ac (sv 3) (ac (sv 3) (ac (s_callTy b_tupleX call_tupleX rfl W.n_tuple rfl (ac (sv 4) (a_nil))) (ac (s_callTy b_tupleX call_tupleX rfl W.n_tuple rfl (ac (s_lc rfl S.nd (i_seq rfl (sv 2)) (own := [("one", 7), ("other", 8)]) (blkOf (by kernel_rfl)) (by decide) (fun _ _ _ _ _ => g_seq rfl rfl (gs_cons (gn 7 S.nd) (gs_cons (gn 8 S.nd) (gs_nil)))) (fun _ _ _ _ _ => pts_yes) (fun _ _ _ _ _ => s_tup (ac (s_ix rfl (sv 3) (sv 7) (by intro _ _; rfl)) (ac (s_ix rfl (sv 3) (sv 8) (by intro _ _; rfl)) (a_nil))))) (a_nil))) (a_nil)))))))))))
theorem sc__law_ce_rails : FnScope ["name", "many", "low", "high", "ropes", "at", "number"] ["name", "many"] (defScope (topS 96)) := ⟨rfl, rfl, rfl, by decide +kernel, rfl, by decide +kernel, by decide +kernel⟩
theorem ok__law_ce_rails (W : WF P w K mg) : FnOk P w K mg base CX0 1 (He.fAd K ("_law_ce_rails", none)) W.fd__law_ce_rails ["name", "many"] (spM (GX P w K) 2 mf__law_ce_rails) := by
  have S := sc__law_ce_rails
  refine fn_okM (N := ["name", "many", "low", "high", "ropes", "at", "number"]) (b := m__law_ce_rails) W.F__law_ce_rails S fun cdv A outer s H E hr => PSs.nox ?_
  conv in (occs := *) defScope (topS 96) => whnf
  conv in (occs := *) defBody (topS 96) => whnf
  conv at hr in (occs := *) defScope (topS 96) => whnf
  exact ss_cons (s_set S.nd rfl (by first | exact .inl rfl | exact .inr rfl) (s_callTy b_tupleX call_tupleX rfl W.n_tuple rfl (ac (s_lc rfl S.nd (i_rng1 rfl W.n_range (s_callB b_len call_lenA rfl W.n_len rfl (ac (sv 1) (a_nil)))) (own := [("at", 5)]) (blkOf (by kernel_rfl)) (by decide) (fun _ _ _ _ _ => gn 5 S.nd) (fun _ _ _ _ _ => pts_yes) (fun _ _ _ _ _ => s_bin rfl .add (s_str) (s_callTy b_str call_strA rfl W.n_str rfl (ac (sv 5) (a_nil))))) (a_nil)))) (ss_cons (s_set S.nd rfl (by first | exact .inl rfl | exact .inr rfl) (s_callTy b_tupleX call_tupleX rfl W.n_tuple rfl (ac (s_lc rfl S.nd (i_rng1 rfl W.n_range (s_callB b_len call_lenA rfl W.n_len rfl (ac (sv 1) (a_nil)))) (own := [("at", 5)]) (blkOf (by kernel_rfl)) (by decide) (fun _ _ _ _ _ => gn 5 S.nd) (fun _ _ _ _ _ => pts_yes) (fun _ _ _ _ _ => s_bin rfl .add (s_str) (s_callTy b_str call_strA rfl W.n_str rfl (ac (sv 5) (a_nil))))) (a_nil)))) (ss_cons (s_set S.nd rfl (by first | exact .inl rfl | exact .inr rfl) (s_callB b_sumL (call_sumL rfl) rfl W.n_sum rfl (ac (s_lc rfl S.nd (i_enum rfl rfl W.n_enumerate (sv 1)) (own := [("at", 5), ("number", 6)]) (blkOf (by kernel_rfl)) (by decide) (fun _ _ _ _ _ => g_seq rfl rfl (gs_cons (gn 5 S.nd) (gs_cons (gn 6 S.nd) (gs_nil)))) (fun _ _ _ _ _ => pts_yes) (fun _ _ _ _ _ => s_bin rfl .mul (s_lst (ac (s_tup (ac (s_ix rfl (sv 2) (sv 5) (by intro _ _; rfl)) (ac (s_ix rfl (sv 3) (sv 5) (by intro _ _; rfl)) (a_nil)))) (a_nil))) (sv 6))) (ac (s_lst (a_nil)) (a_nil))))) (ss_one (s_ret (s_tup (ac (sv 0) (ac (s_catX rfl (sv 2) (sv 3)) (ac (sv 2) (ac (sv 3) (ac (s_callTy b_tupleX call_tupleX rfl W.n_tuple rfl (ac (sv 4) (a_nil))) (a_nil)))))))))))
theorem sc__law_ce_made : FnScope ["plain", "one"] ["plain"] (defScope (topS 97)) := ⟨rfl, rfl, rfl, by decide +kernel, rfl, by decide +kernel, by decide +kernel⟩
theorem ok__law_ce_made (W : WF P w K mg) : FnOk P w K mg base CX0 8 (He.fAd K ("_law_ce_made", none)) W.fd__law_ce_made ["plain"] (spM (GX P w K) 1 mf__law_ce_made) := by
  have S := sc__law_ce_made
  refine fn_okM (N := ["plain", "one"]) (b := m__law_ce_made) W.F__law_ce_made S fun cdv A outer s H E hr => PSs.nox ?_
  conv in (occs := *) defScope (topS 97) => whnf
  conv in (occs := *) defBody (topS 97) => whnf
  conv at hr in (occs := *) defScope (topS 97) => whnf
  exact ss_one (s_ret (s_make (c := 1) (show 1 < 4 by decide) W.mk_Kit (ok_Kit___init__ W) (hr.mono (by decide)) rfl W.g_Kit W.b_Kit___init__ .nil (by intro _ _ _; simp only [RVs]) (ac (s_ix rfl (sv 0) (s_int) (by intro _ _; rfl)) (ac (s_ix rfl (sv 0) (s_int) (by intro _ _; rfl)) (ac (s_lc rfl S.nd (i_seq rfl (s_ix rfl (sv 0) (s_int) (by intro _ _; rfl))) (own := [("one", 1)]) (blkOf (by kernel_rfl)) (by decide) (fun _ _ _ _ _ => gn 1 S.nd) (fun _ _ _ _ _ => pts_yes) (fun _ _ _ _ _ => s_make (c := 0) (show 0 < 4 by decide) W.mk_Kind (ok_Kind___init__ W) (hr.mono (by decide)) rfl W.g_Kind W.b_Kind___init__ .nil (by intro _ _ _; simp only [RVs]) (ac (s_ix rfl (sv 1) (s_int) (by intro _ _; rfl)) (ac (s_ix rfl (sv 1) (s_int) (by intro _ _; rfl)) (ac (s_ix rfl (sv 1) (s_int) (by intro _ _; rfl)) (ac (s_ix rfl (sv 1) (s_int) (by intro _ _; rfl)) (ac (s_ix rfl (sv 1) (s_int) (by intro _ _; rfl)) (a_nil)))))) pass0)) (a_nil)))) pass0))
theorem sc__law_ce_grade : FnScope ["plain"] ["plain"] (defScope (topS 98)) := ⟨rfl, rfl, rfl, by decide +kernel, rfl, by decide +kernel, by decide +kernel⟩
theorem ok__law_ce_grade (W : WF P w K mg) : FnOk P w K mg base CX0 1 (He.fAd K ("_law_ce_grade", none)) W.fd__law_ce_grade ["plain"] (spM (GX P w K) 1 mf__law_ce_grade) := by
  have S := sc__law_ce_grade
  refine fn_okM (N := ["plain"]) (b := m__law_ce_grade) W.F__law_ce_grade S fun cdv A outer s H E hr => PSs.nox ?_
  conv in (occs := *) defScope (topS 98) => whnf
  conv in (occs := *) defBody (topS 98) => whnf
  conv at hr in (occs := *) defScope (topS 98) => whnf
  exact ss_one (s_ret (s_ix rfl (s_tup (ac (s_int) (ac (s_int) (ac (s_int) (ac (s_int) (a_nil)))))) (s_ix rfl (sv 0) (s_int) (by intro _ _; rfl)) (by intro _ _; rfl)))
theorem sc__law_ce_stack : FnScope ["kinds", "foot", "many", "ropes", "base", "top", "its", "pieces", "low", "high", "some", "numbers", "piece", "one", "other"] ["kinds", "foot"] (defScope (topS 99)) := ⟨rfl, rfl, rfl, by decide +kernel, rfl, by decide +kernel, by decide +kernel⟩
theorem ok__law_ce_stack (W : WF P w K mg) : FnOk P w K mg base CX0 1 (He.fAd K ("_law_ce_stack", none)) W.fd__law_ce_stack ["kinds", "foot"] (spM (GX P w K) 2 mf__law_ce_stack) := by
  have S := sc__law_ce_stack
  refine fn_okM (N := ["kinds", "foot", "many", "ropes", "base", "top", "its", "pieces", "low", "high", "some", "numbers", "piece", "one", "other"]) (b := m__law_ce_stack) W.F__law_ce_stack S fun cdv A outer s H E hr => PSs.nox ?_
  conv in (occs := *) defScope (topS 99) => whnf
  conv in (occs := *) defBody (topS 99) => whnf
  conv at hr in (occs := *) defScope (topS 99) => whnf
  exact ss_cons (s_par3 rfl S.nd rfl rfl rfl (by decide) (by decide) (by decide) rfl rfl rfl (ac (s_bin rfl .add (s_int) (s_callB b_max (call_maxB rfl hr.units) rfl W.n_max rfl (ac (sv 1) (a_nil)))) (ac (s_lst (a_nil)) (ac (s_callTy b_list call_list_of rfl W.n_list rfl (ac (sv 1) (a_nil))) (a_nil)))) rfl) (ss_cons (s_set S.nd rfl (by first | exact .inl rfl | exact .inr rfl) (s_callTy b_list call_list_of rfl W.n_list rfl (ac (sv 1) (a_nil)))) (ss_cons (s_for PassesOwn.never rfl (i_seq rfl (sv 0)) (g_seq rfl rfl (gs_cons (gn 6 S.nd) (gs_cons (gn 7 S.nd) (gs_cons (gn 8 S.nd) (gs_cons (gn 9 S.nd) (gs_cons (gn 10 S.nd) (gs_nil))))))) (ss_cons (s_set S.nd rfl (by first | exact .inl rfl | exact .inr rfl) (s_callTy b_dict (call_dictP rfl) rfl W.n_dict rfl (ac (s_lz rfl rfl rfl W.n_list rfl W.n_zip (ac (sv 8) (ac (sv 5) (a_nil)))) (a_nil)))) (ss_cons (s_for PassesOwn.never rfl (i_seq rfl (sv 7)) (gn 12 S.nd) (ss_one (s_ifS (t_cmp (cmp_ok rfl (r65 hr)) .notin (sv 12) (sv 11) rfl) (ss_cons (s_dpt (r1 hr) (sv 11) (sv 12) (sv 2)) (ss_one (s_set S.nd rfl (by first | exact .inl rfl | exact .inr rfl) (s_bin rfl .add (sv 2) (s_int))))) (ss_nil)))) (ss_cons (s_set S.nd rfl (by first | exact .inl rfl | exact .inr rfl) (s_bin rfl .add (sv 3) (s_lc rfl S.nd (i_seq rfl (sv 10)) (own := [("one", 13), ("other", 14)]) (blkOf (by kernel_rfl)) (by decide) (fun _ _ _ _ _ => g_seq rfl rfl (gs_cons (gn 13 S.nd) (gs_cons (gn 14 S.nd) (gs_nil)))) (fun _ _ _ _ _ => pts_yes) (fun _ _ _ _ _ => s_tup (ac (s_dix (r1 hr) (sv 11) (sv 13) (by intro _ _; rfl)) (ac (s_dix (r1 hr) (sv 11) (sv 14) (by intro _ _; rfl)) (a_nil))))))) (ss_one (s_setLc rfl S.nd rfl rfl (sw_true rfl rfl rfl rfl) (i_seq rfl (sv 9)) (own := [("piece", 12)]) (blkOf (by kernel_rfl)) (by decide) (fun _ _ _ _ _ => gn 12 S.nd) (fun _ _ _ _ _ => pts_yes) (fun _ _ _ _ _ => s_dix (r1 hr) (sv 11) (sv 12) (by intro _ _; rfl)))))))) (ss_one (s_ret (s_tup (ac (sv 2) (ac (sv 3) (ac (sv 4) (ac (sv 5) (a_nil))))))))))
theorem sc__law_ce_kind_rows : FnScope ["plain", "kind", "grade", "partings", "many", "ropes", "low", "high", "exact", "grouping", "want", "spot", "rows", "below", "row", "above", "one", "other", "piece"] ["plain", "kind"] (defScope (topS 100)) := ⟨rfl, rfl, rfl, by decide +kernel, rfl, by decide +kernel, by decide +kernel⟩
theorem ok__law_ce_kind_rows (W : WF P w K mg) : FnOk P w K mg base CX0 2 (He.fAd K ("_law_ce_kind_rows", none)) W.fd__law_ce_kind_rows ["plain", "kind"] (spM (GX P w K) 2 mf__law_ce_kind_rows) := by
  have S := sc__law_ce_kind_rows
  refine fn_okM (N := ["plain", "kind", "grade", "partings", "many", "ropes", "low", "high", "exact", "grouping", "want", "spot", "rows", "below", "row", "above", "one", "other", "piece"]) (b := m__law_ce_kind_rows) W.F__law_ce_kind_rows S fun cdv A outer s H E hr => PSs.nox ?_
  conv in (occs := *) defScope (topS 100) => whnf
  conv in (occs := *) defBody (topS 100) => whnf
  conv at hr in (occs := *) defScope (topS 100) => whnf
  exact ss_cons (s_par rfl S.nd rfl rfl (by decide) rfl rfl (ac (s_callP (fn_okP (ok__law_ce_grade W)) (hr.mono (by decide)) rfl W.g__law_ce_grade W.F__law_ce_grade.kp W.b__law_ce_grade .nil (by intro _ _ _; simp only [RVs]) (ac (sv 0) (a_nil)) pass0) (ac (s_callP (fn_okP (ok__law_ce_partings W)) (hr.mono (by decide)) rfl W.g__law_ce_partings W.F__law_ce_partings.kp W.b__law_ce_partings .nil (by intro _ _ _; simp only [RVs]) (ac (s_ix rfl (sv 0) (s_int) (by intro _ _; rfl)) (a_nil)) pass0) (a_nil))) rfl) (ss_cons (s_asg (s_callP (fn_okP (ok__law_ce_stack W)) (hr.mono (by decide)) rfl W.g__law_ce_stack W.F__law_ce_stack.kp W.b__law_ce_stack .nil (by intro _ _ _; simp only [RVs]) (ac (s_lst (ac (sv 1) (a_nil))) (ac (s_tupRg rfl rfl W.n_tuple rfl W.n_range (s_ix rfl (sv 0) (s_int) (by intro _ _; rfl))) (a_nil))) pass0) (g_seq rfl rfl (gs_cons (gn 4 S.nd) (gs_cons (gn 5 S.nd) (gs_cons (gn 6 S.nd) (gs_cons (gn 7 S.nd) (gs_nil))))))) (ss_cons (s_set S.nd rfl (by first | exact .inl rfl | exact .inr rfl) (s_nnew rfl rfl)) (ss_cons (s_for PassesOwn.never rfl (i_seq rfl (s_callP (fn_okP (ok__law_ce_partings W)) (hr.mono (by decide)) rfl W.g__law_ce_partings W.F__law_ce_partings.kp W.b__law_ce_partings .nil (by intro _ _ _; simp only [RVs]) (ac (sv 4) (a_nil)) pass0)) (gn 9 S.nd) (ss_cons (s_set S.nd rfl (by first | exact .inl rfl | exact .inr rfl) (s_bin rfl .sub (s_bin rfl .mul (sv 2) (s_callB b_max (call_maxB rfl hr.units) rfl W.n_max rfl (ac (sv 9) (a_nil)))) (s_callB b_len call_lenA rfl W.n_len rfl (ac (s_lc rfl S.nd (i_seq rfl (sv 5)) (own := [("one", 16), ("other", 17)]) (blkOf (by kernel_rfl)) (by decide) (fun _ _ _ _ _ => g_seq rfl rfl (gs_cons (gn 16 S.nd) (gs_cons (gn 17 S.nd) (gs_nil)))) (fun _ _ _ _ _ => pts_one (t_cmp (cmp_ok rfl (r65 hr)) .ne (s_ix rfl (sv 9) (sv 16) (by intro _ _; rfl)) (s_ix rfl (sv 9) (sv 17) (by intro _ _; rfl)) rfl)) (fun _ _ _ _ _ => s_int)) (a_nil))))) (ss_cons (s_set S.nd rfl (by first | exact .inl rfl | exact .inr rfl) (s_tup (ac (s_callP (fn_okP (ok__law_ce_told W)) (hr.mono (by decide)) rfl W.g__law_ce_told W.F__law_ce_told.kp W.b__law_ce_told .nil (by intro _ _ _; simp only [RVs]) (ac (s_lc rfl S.nd (i_seq rfl (sv 6)) (own := [("piece", 18)]) (blkOf (by kernel_rfl)) (by decide) (fun _ _ _ _ _ => gn 18 S.nd) (fun _ _ _ _ _ => pts_yes) (fun _ _ _ _ _ => s_ix rfl (sv 9) (sv 18) (by intro _ _; rfl))) (a_nil)) pass0) (ac (s_callP (fn_okP (ok__law_ce_told W)) (hr.mono (by decide)) rfl W.g__law_ce_told W.F__law_ce_told.kp W.b__law_ce_told .nil (by intro _ _ _; simp only [RVs]) (ac (s_lc rfl S.nd (i_seq rfl (sv 7)) (own := [("piece", 18)]) (blkOf (by kernel_rfl)) (by decide) (fun _ _ _ _ _ => gn 18 S.nd) (fun _ _ _ _ _ => pts_yes) (fun _ _ _ _ _ => s_ix rfl (sv 9) (sv 18) (by intro _ _; rfl))) (a_nil)) pass0) (a_nil))))) (ss_one (s_npt rfl rfl rfl hr.units (sv 8) (sv 11) (s_callB b_max (call_maxB rfl hr.units) rfl W.n_max rfl (ac (sv 10) (ac (s_ngt rfl rfl rfl hr.units (sv 8) (sv 11) (sv 10) ⟨rfl, rfl, rfl, rfl⟩) (a_nil))))))))) (ss_fz (ss_cons (s_set S.nd rfl (by first | exact .inl rfl | exact .inr rfl) (s_new (a_nil))) (ss_cons (s_for PassesOwn.never rfl (i_seq rfl (sv 3)) (gn 13 S.nd) (ss_cons (s_set S.nd rfl (by first | exact .inl rfl | exact .inr rfl) (s_new (a_nil))) (ss_cons (s_for PassesOwn.never rfl (i_seq rfl (sv 3)) (gn 15 S.nd) (ss_one (s_expr (s_app (sv 14) (s_callB b_max (call_maxB rfl hr.units) rfl W.n_max rfl (ac (s_lc rfl S.nd (i_N (sv 8)) (own := [("spot", 11)]) (blkOf (by kernel_rfl)) (by decide) (fun _ _ _ _ _ => gn 11 S.nd) (fun _ _ _ _ _ => pts_one (tand (t_truth rfl (s_callP (fn_okP (ok__law_ce_over W)) (hr.mono (by decide)) rfl W.g__law_ce_over W.F__law_ce_over.kp W.b__law_ce_over .nil (by intro _ _ _; simp only [RVs]) (ac (s_ix rfl (sv 11) (s_int) (by intro _ _; rfl)) (ac (sv 13) (a_nil))) pass0) (by intro _; rfl)) (t_and1 (t_truth rfl (s_callP (fn_okP (ok__law_ce_over W)) (hr.mono (by decide)) rfl W.g__law_ce_over W.F__law_ce_over.kp W.b__law_ce_over .nil (by intro _ _ _; simp only [RVs]) (ac (s_ix rfl (sv 11) (s_int) (by intro _ _; rfl)) (ac (sv 15) (a_nil))) pass0) (by intro _; rfl))))) (fun _ _ _ _ _ => s_nix rfl rfl rfl hr.units (sv 8) (sv 11) (by intro _ _; rfl))) (a_nil))))))) (ss_one (s_expr (s_app (sv 12) (s_callTy b_tupleX call_tupleX rfl W.n_tuple rfl (ac (sv 14) (a_nil))))))))) (ss_one (s_ret (s_if (t_cmp (cmp_ok rfl (r65 hr)) .eq (s_ix rfl (s_ix rfl (sv 12) (s_int) (by intro _ _; rfl)) (s_int) (by intro _ _; rfl)) (s_int) rfl) (s_callTy b_tupleX call_tupleX rfl W.n_tuple rfl (ac (sv 12) (a_nil))) (s_tup (a_nil)))))))))))
theorem sc__law_ce_empty : FnScope ["plain", "partings", "below", "above"] ["plain"] (defScope (topS 101)) := ⟨rfl, rfl, rfl, by decide +kernel, rfl, by decide +kernel, by decide +kernel⟩
theorem ok__law_ce_empty (W : WF P w K mg) : FnOk P w K mg base CX0 3 (He.fAd K ("_law_ce_empty", none)) W.fd__law_ce_empty ["plain"] (spM (GX P w K) 1 mf__law_ce_empty) := by
  have S := sc__law_ce_empty
  refine fn_okM (N := ["plain", "partings", "below", "above"]) (b := m__law_ce_empty) W.F__law_ce_empty S fun cdv A outer s H E hr => PSs.nox ?_
  conv in (occs := *) defScope (topS 101) => whnf
  conv in (occs := *) defBody (topS 101) => whnf
  conv at hr in (occs := *) defScope (topS 101) => whnf
  exact ss_cons (s_set S.nd rfl (by first | exact .inl rfl | exact .inr rfl) (s_callP (fn_okP (ok__law_ce_partings W)) (hr.mono (by decide)) rfl W.g__law_ce_partings W.F__law_ce_partings.kp W.b__law_ce_partings .nil (by intro _ _ _; simp only [RVs]) (ac (s_ix rfl (sv 0) (s_int) (by intro _ _; rfl)) (a_nil)) pass0)) (ss_one (s_ret (s_callTy b_tupleX call_tupleX rfl W.n_tuple rfl (ac (s_lc rfl S.nd (i_seq rfl (sv 1)) (own := [("below", 2)]) (blkOf (by kernel_rfl)) (by decide) (fun _ _ _ _ _ => gn 2 S.nd) (fun _ _ _ _ _ => pts_yes) (fun _ _ _ _ _ => s_callTy b_tupleX call_tupleX rfl W.n_tuple rfl (ac (s_lc rfl S.nd (i_seq rfl (sv 1)) (own := [("above", 3)]) (blkOf (by kernel_rfl)) (by decide) (fun _ _ _ _ _ => gn 3 S.nd) (fun _ _ _ _ _ => pts_yes) (fun _ _ _ _ _ => s_bin rfl .mul (s_callP (fn_okP (ok__law_ce_grade W)) (hr.mono (by decide)) rfl W.g__law_ce_grade W.F__law_ce_grade.kp W.b__law_ce_grade .nil (by intro _ _ _; simp only [RVs]) (ac (sv 0) (a_nil)) pass0) (s_callB b_max (call_maxB rfl hr.units) rfl W.n_max rfl (ac (s_callP (fn_okP (ok__law_ce_join W)) (hr.mono (by decide)) rfl W.g__law_ce_join W.F__law_ce_join.kp W.b__law_ce_join .nil (by intro _ _ _; simp only [RVs]) (ac (sv 2) (ac (sv 3) (a_nil))) pass0) (a_nil))))) (a_nil)))) (a_nil)))))
theorem sc__law_ce_after : FnScope ["plain", "one", "other", "partings", "rows", "costs", "row", "middle", "above", "at"] ["plain", "one", "other"] (defScope (topS 102)) := ⟨rfl, rfl, rfl, by decide +kernel, rfl, by decide +kernel, by decide +kernel⟩
theorem ok__law_ce_after (W : WF P w K mg) : FnOk P w K mg base CX0 2 (He.fAd K ("_law_ce_after", none)) W.fd__law_ce_after ["plain", "one", "other"] (spM (GX P w K) 3 mf__law_ce_after) := by
  have S := sc__law_ce_after
  refine fn_okM (N := ["plain", "one", "other", "partings", "rows", "costs", "row", "middle", "above", "at"]) (b := m__law_ce_after) W.F__law_ce_after S fun cdv A outer s H E hr => PSs.nox ?_
  conv in (occs := *) defScope (topS 102) => whnf
  conv in (occs := *) defBody (topS 102) => whnf
  conv at hr in (occs := *) defScope (topS 102) => whnf
  exact ss_cons (s_ifS (tor (t_cmp (cmp_ok rfl (r65 hr)) .eq (sv 1) (s_tup (a_nil)) rfl) (t_or1 (t_cmp (cmp_ok rfl (r65 hr)) .eq (sv 2) (s_tup (a_nil)) rfl))) (ss_one (s_ret (s_tup (a_nil)))) (ss_nil)) (ss_cons (s_asg (s_tup (ac (s_callP (fn_okP (ok__law_ce_partings W)) (hr.mono (by decide)) rfl W.g__law_ce_partings W.F__law_ce_partings.kp W.b__law_ce_partings .nil (by intro _ _ _; simp only [RVs]) (ac (s_ix rfl (sv 0) (s_int) (by intro _ _; rfl)) (a_nil)) pass0) (ac (s_new (a_nil)) (a_nil)))) (g_seq rfl rfl (gs_cons (gn 3 S.nd) (gs_cons (gn 4 S.nd) (gs_nil))))) (ss_cons (s_set S.nd rfl (by first | exact .inl rfl | exact .inr rfl) (s_lc rfl S.nd (i_seq rfl (sv 3)) (own := [("middle", 7)]) (blkOf (by kernel_rfl)) (by decide) (fun _ _ _ _ _ => gn 7 S.nd) (fun _ _ _ _ _ => pts_yes) (fun _ _ _ _ _ => s_bin rfl .mul (s_callP (fn_okP (ok__law_ce_grade W)) (hr.mono (by decide)) rfl W.g__law_ce_grade W.F__law_ce_grade.kp W.b__law_ce_grade .nil (by intro _ _ _; simp only [RVs]) (ac (sv 0) (a_nil)) pass0) (s_callB b_max (call_maxB rfl hr.units) rfl W.n_max rfl (ac (sv 7) (a_nil)))))) (ss_cons (s_for PassesOwn.never rfl (i_seq rfl (sv 1)) (gn 6 S.nd) (ss_one (s_expr (s_app (sv 4) (s_callTy b_tupleX call_tupleX rfl W.n_tuple rfl (ac (s_lc rfl S.nd (i_rng1 rfl W.n_range (s_callB b_len call_lenA rfl W.n_len rfl (ac (sv 3) (a_nil)))) (own := [("above", 8)]) (blkOf (by kernel_rfl)) (by decide) (fun _ _ _ _ _ => gn 8 S.nd) (fun _ _ _ _ _ => pts_yes) (fun _ _ _ _ _ => s_callB b_max (call_maxB rfl hr.units) rfl W.n_max rfl (ac (s_lc rfl S.nd (i_rng1 rfl W.n_range (s_callB b_len call_lenA rfl W.n_len rfl (ac (sv 3) (a_nil)))) (own := [("at", 9)]) (blkOf (by kernel_rfl)) (by decide) (fun _ _ _ _ _ => gn 9 S.nd) (fun _ _ _ _ _ => pts_yes) (fun _ _ _ _ _ => s_bin rfl .sub (s_bin rfl .add (s_ix rfl (sv 6) (sv 9) (by intro _ _; rfl)) (s_ix rfl (s_ix rfl (sv 2) (sv 9) (by intro _ _; rfl)) (sv 8) (by intro _ _; rfl))) (s_ix rfl (sv 5) (sv 9) (by intro _ _; rfl)))) (a_nil)))) (a_nil))))))) (ss_one (s_ret (s_if (t_cmp (cmp_ok rfl (r65 hr)) .eq (s_ix rfl (s_ix rfl (sv 4) (s_int) (by intro _ _; rfl)) (s_int) (by intro _ _; rfl)) (s_int) rfl) (s_callTy b_tupleX call_tupleX rfl W.n_tuple rfl (ac (sv 4) (a_nil))) (s_tup (a_nil))))))))
theorem sc__law_ce_steps : FnScope ["plain", "kind"] ["plain"] (defScope (topS 103)) := ⟨rfl, rfl, rfl, by decide +kernel, rfl, by decide +kernel, by decide +kernel⟩
theorem ok__law_ce_steps (W : WF P w K mg) : FnOk P w K mg base CX0 3 (He.fAd K ("_law_ce_steps", none)) W.fd__law_ce_steps ["plain"] (spM (GX P w K) 1 mf__law_ce_steps) := by
  have S := sc__law_ce_steps
  refine fn_okM (N := ["plain", "kind"]) (b := m__law_ce_steps) W.F__law_ce_steps S fun cdv A outer s H E hr => PSs.nox ?_
  conv in (occs := *) defScope (topS 103) => whnf
  conv in (occs := *) defBody (topS 103) => whnf
  conv at hr in (occs := *) defScope (topS 103) => whnf
  exact ss_one (s_ret (s_frz (s_callTy b_dict (call_dictP rfl) rfl W.n_dict rfl (ac (s_lc rfl S.nd (i_seq rfl (s_ix rfl (sv 0) (s_int) (by intro _ _; rfl))) (own := [("kind", 1)]) (blkOf (by kernel_rfl)) (by decide) (fun _ _ _ _ _ => gn 1 S.nd) (fun _ _ _ _ _ => pts_yes) (fun _ _ _ _ _ => s_tup (ac (s_ix rfl (sv 1) (s_int) (by intro _ _; rfl)) (ac (s_callP (fn_okP (ok__law_ce_kind_rows W)) (hr.mono (by decide)) rfl W.g__law_ce_kind_rows W.F__law_ce_kind_rows.kp W.b__law_ce_kind_rows .nil (by intro _ _ _; simp only [RVs]) (ac (sv 0) (ac (sv 1) (a_nil))) pass0) (a_nil))))) (a_nil)))))
theorem sc__law_ce_deed : FnScope ["plain", "steps", "names", "found", "name"] ["plain", "steps", "names"] (defScope (topS 104)) := ⟨rfl, rfl, rfl, by decide +kernel, rfl, by decide +kernel, by decide +kernel⟩
theorem ok__law_ce_deed (W : WF P w K mg) : FnOk P w K mg base CX0 4 (He.fAd K ("_law_ce_deed", none)) W.fd__law_ce_deed ["plain", "steps", "names"] (spM (GX P w K) 3 mf__law_ce_deed) := by
  have S := sc__law_ce_deed
  refine fn_okM (N := ["plain", "steps", "names", "found", "name"]) (b := m__law_ce_deed) W.F__law_ce_deed S fun cdv A outer s H E hr => PSs.nox ?_
  conv in (occs := *) defScope (topS 104) => whnf
  conv in (occs := *) defBody (topS 104) => whnf
  conv at hr in (occs := *) defScope (topS 104) => whnf
  exact ss_cons (s_set S.nd rfl (by first | exact .inl rfl | exact .inr rfl) (s_callP (fn_okP (ok__law_ce_empty W)) (hr.mono (by decide)) rfl W.g__law_ce_empty W.F__law_ce_empty.kp W.b__law_ce_empty .nil (by intro _ _ _; simp only [RVs]) (ac (sv 0) (a_nil)) pass0)) (ss_cons (s_for PassesOwn.never rfl (i_seq rfl (sv 2)) (gn 4 S.nd) (ss_one (s_set S.nd rfl (by first | exact .inl rfl | exact .inr rfl) (s_callP (fn_okP (ok__law_ce_after W)) (hr.mono (by decide)) rfl W.g__law_ce_after W.F__law_ce_after.kp W.b__law_ce_after .nil (by intro _ _ _; simp only [RVs]) (ac (sv 0) (ac (sv 3) (ac (s_dix (r1 hr) (sv 1) (sv 4) (by intro _ _; rfl)) (a_nil)))) pass0)))) (ss_one (s_ret (sv 3))))
theorem sc__law_rails_rows : FnScope ["grade", "first", "last", "below", "above", "rows", "low", "row", "high", "wants", "grouping", "tied_ropes", "one", "other", "many"] ["grade", "first", "last", "below", "above"] (defScope (topS 105)) := ⟨rfl, rfl, rfl, by decide +kernel, rfl, by decide +kernel, by decide +kernel⟩
theorem ok__law_rails_rows (W : WF P w K mg) : FnOk P w K mg base CX0 2 (He.fAd K ("_law_rails_rows", none)) W.fd__law_rails_rows ["grade", "first", "last", "below", "above"] (spM (GX P w K) 5 mf__law_rails_rows) := by
  have S := sc__law_rails_rows
  refine fn_okM (N := ["grade", "first", "last", "below", "above", "rows", "low", "row", "high", "wants", "grouping", "tied_ropes", "one", "other", "many"]) (b := m__law_rails_rows) W.F__law_rails_rows S fun cdv A outer s H E hr => PSs.nox ?_
  conv in (occs := *) defScope (topS 105) => whnf
  conv in (occs := *) defBody (topS 105) => whnf
  conv at hr in (occs := *) defScope (topS 105) => whnf
  exact ss_cons (s_ifS (t_cmp (cmp_ok rfl (r65 hr)) .lt (s_bin rfl .add (sv 1) (sv 2)) (sv 0) rfl) (ss_one (s_ret (s_tup (a_nil)))) (ss_nil)) (ss_cons (s_set S.nd rfl (by first | exact .inl rfl | exact .inr rfl) (s_new (a_nil))) (ss_cons (s_for PassesOwn.never rfl (i_seq rfl (s_tup (ac (s_bl) (ac (s_bl) (a_nil))))) (gn 6 S.nd) (ss_cons (s_set S.nd rfl (by first | exact .inl rfl | exact .inr rfl) (s_new (a_nil))) (ss_cons (s_for PassesOwn.never rfl (i_seq rfl (s_tup (ac (s_bl) (ac (s_bl) (a_nil))))) (gn 8 S.nd) (ss_cons (s_set S.nd rfl (by first | exact .inl rfl | exact .inr rfl) (s_new (ac (s_int) (a_nil)))) (ss_cons (s_for PassesOwn.never rfl (i_seq rfl (s_callP (fn_okP (ok__law_ce_partings W)) (hr.mono (by decide)) rfl W.g__law_ce_partings W.F__law_ce_partings.kp W.b__law_ce_partings .nil (by intro _ _ _; simp only [RVs]) (ac (s_int) (a_nil)) pass0)) (gn 10 S.nd) (ss_one (s_ifS (tand (tor (t_truth rfl (sv 6) (by intro _; rfl)) (t_or1 (t_cmp (cmp_ok rfl (r65 hr)) .eq (s_ix rfl (sv 10) (s_int) (by intro _ _; rfl)) (s_ix rfl (sv 10) (s_int) (by intro _ _; rfl)) rfl))) (t_and1 (tor (t_truth rfl (sv 8) (by intro _; rfl)) (t_or1 (t_cmp (cmp_ok rfl (r65 hr)) .eq (s_ix rfl (sv 10) (s_int) (by intro _ _; rfl)) (s_ix rfl (sv 10) (s_int) (by intro _ _; rfl)) rfl))))) (ss_cons (s_set S.nd rfl (by first | exact .inl rfl | exact .inr rfl) (s_lst (ac (s_tup (ac (s_int) (ac (s_int) (ac (sv 1) (a_nil))))) (ac (s_tup (ac (s_int) (ac (s_int) (ac (sv 2) (a_nil))))) (ac (s_tup (ac (s_int) (ac (s_int) (ac (s_if (t_truth rfl (sv 6) (by intro _; rfl)) (sv 3) (s_int)) (a_nil))))) (ac (s_tup (ac (s_int) (ac (s_int) (ac (s_if (t_truth rfl (sv 8) (by intro _; rfl)) (sv 4) (s_int)) (a_nil))))) (a_nil))))))) (ss_one (s_expr (s_app (sv 9) (s_bin rfl .sub (s_bin rfl .mul (sv 0) (s_callB b_max (call_maxB rfl hr.units) rfl W.n_max rfl (ac (sv 10) (a_nil)))) (s_callB b_sum (cr_sum rfl) rfl W.n_sum rfl (ac (s_lc rfl S.nd (i_seq rfl (sv 11)) (own := [("one", 12), ("other", 13), ("many", 14)]) (blkOf (by kernel_rfl)) (by decide) (fun _ _ _ _ _ => g_seq rfl rfl (gs_cons (gn 12 S.nd) (gs_cons (gn 13 S.nd) (gs_cons (gn 14 S.nd) (gs_nil))))) (fun _ _ _ _ _ => pts_one (t_cmp (cmp_ok rfl (r65 hr)) .ne (s_ix rfl (sv 10) (sv 12) (by intro _ _; rfl)) (s_ix rfl (sv 10) (sv 13) (by intro _ _; rfl)) rfl)) (fun _ _ _ _ _ => sv 14)) (a_nil)))))))) (ss_nil)))) (ss_one (s_expr (s_app (sv 7) (s_callB b_max (call_maxB rfl hr.units) rfl W.n_max rfl (ac (sv 9) (a_nil))))))))) (ss_one (s_expr (s_app (sv 5) (s_callTy b_tupleX call_tupleX rfl W.n_tuple rfl (ac (sv 7) (a_nil))))))))) (ss_one (s_ret (s_callTy b_tupleX call_tupleX rfl W.n_tuple rfl (ac (sv 5) (a_nil)))))))
theorem sc_law : FnScope ["script", "pen", "turn", "dimension", "grade", "first", "last", "below", "above", "string", "more", "plain", "kit", "due", "many", "word", "ropes", "fast", "lap"] ["script"] (defScope (topS 106)) := ⟨rfl, rfl, rfl, by decide +kernel, rfl, by decide +kernel, by decide +kernel⟩
theorem ok_law (W : WF P w K mg) : FnAt P w K mg base CX0 callerA (He.fAd K ("law", none)) W.fd_law ["script"] (spM (GX P w K) 1 mf_law) := by
  have S := sc_law
  refine fn_okG (k := 12) (N := ["script", "pen", "turn", "dimension", "grade", "first", "last", "below", "above", "string", "more", "plain", "kit", "due", "many", "word", "ropes", "fast", "lap"]) (b := m_law) W.F_law S ⟨rfl, by decide, by decide⟩ fun cdv outer s H E hr => PSs.nox ?_
  conv in (occs := *) defScope (topS 106) => whnf
  conv in (occs := *) defBody (topS 106) => whnf
  conv at hr in (occs := *) defScope (topS 106) => whnf
  exact ss_cons (s_set S.nd rfl (by first | exact .inl rfl | exact .inr rfl) (s_call (ok__law_pen W) (hr.mono (by decide)) rfl W.g__law_pen W.F__law_pen.kp W.b__law_pen .nil (by intro _ _ _; simp only [RVs]) (ac (sv 0) (a_nil)) pass0)) (ss_cons (s_for PassesOwn.never rfl (i_rng1 rfl W.n_range (s_int)) (gn 2 S.nd) (ss_cons (s_set S.nd rfl (by first | exact .inl rfl | exact .inr rfl) (s_call (ok__law_pick W) (hr.mono (by decide)) rfl W.g__law_pick W.F__law_pick.kp W.b__law_pick .nil (by intro _ _ _; simp only [RVs]) (ac (sv 1) (ac (s_lst (ac (s_int) (ac (s_int) (ac (s_int) (a_nil))))) (a_nil))) pass0)) (ss_cons (s_set S.nd rfl (by first | exact .inl rfl | exact .inr rfl) (s_ix rfl (s_tup (ac (s_int) (ac (s_int) (ac (s_int) (ac (s_int) (a_nil)))))) (sv 3) (by intro _ _; rfl))) (ss_cons (s_asg (s_lc rfl S.nd (i_rng1 rfl W.n_range (s_int)) (own := [("lap", 18)]) (blkOf (by kernel_rfl)) (by decide) (fun _ _ _ _ _ => gn 18 S.nd) (fun _ _ _ _ _ => pts_yes) (fun _ _ _ _ _ => s_call (ok__law_draw W) (hr.mono (by decide)) rfl W.g__law_draw W.F__law_draw.kp W.b__law_draw .nil (by intro _ _ _; simp only [RVs]) (ac (sv 1) (ac (s_bin rfl .add (sv 4) (s_int)) (a_nil))) pass0)) (g_seq rfl rfl (gs_cons (gn 5 S.nd) (gs_cons (gn 6 S.nd) (gs_nil))))) (ss_cons (s_asg (s_lc rfl S.nd (i_rng1 rfl W.n_range (s_int)) (own := [("lap", 18)]) (blkOf (by kernel_rfl)) (by decide) (fun _ _ _ _ _ => gn 18 S.nd) (fun _ _ _ _ _ => pts_yes) (fun _ _ _ _ _ => s_call (ok__law_draw W) (hr.mono (by decide)) rfl W.g__law_draw W.F__law_draw.kp W.b__law_draw .nil (by intro _ _ _; simp only [RVs]) (ac (sv 1) (ac (s_bin rfl .add (sv 4) (s_int)) (a_nil))) pass0)) (g_seq rfl rfl (gs_cons (gn 7 S.nd) (gs_cons (gn 8 S.nd) (gs_nil))))) (ss_cons (s_par rfl S.nd rfl rfl (by decide) rfl rfl (ac (s_callP (fn_okP (ok__law_ce_through W)) (hr.mono (by decide)) rfl W.g__law_ce_through W.F__law_ce_through.kp W.b__law_ce_through .nil (by intro _ _ _; simp only [RVs]) (ac (s_str) (ac (s_lst (ac (s_int) (ac (s_int) (a_nil)))) (ac (s_bin rfl .mul (s_lst (ac (s_tup (ac (s_int) (ac (s_int) (a_nil)))) (a_nil))) (sv 7)) (a_nil)))) pass0) (ac (s_callP (fn_okP (ok__law_ce_through W)) (hr.mono (by decide)) rfl W.g__law_ce_through W.F__law_ce_through.kp W.b__law_ce_through .nil (by intro _ _ _; simp only [RVs]) (ac (s_str) (ac (s_lst (ac (s_int) (ac (s_int) (a_nil)))) (ac (s_bin rfl .mul (s_lst (ac (s_tup (ac (s_int) (ac (s_int) (a_nil)))) (a_nil))) (sv 8)) (a_nil)))) pass0) (a_nil))) rfl) (ss_cons (s_set S.nd rfl (by first | exact .inl rfl | exact .inr rfl) (s_tup (ac (sv 3) (ac (s_int) (ac (s_tup (ac (s_callP (fn_okP (ok__law_ce_rails W)) (hr.mono (by decide)) rfl W.g__law_ce_rails W.F__law_ce_rails.kp W.b__law_ce_rails .nil (by intro _ _ _; simp only [RVs]) (ac (s_str) (ac (s_lst (ac (sv 5) (ac (sv 6) (a_nil)))) (a_nil))) pass0) (ac (sv 9) (ac (sv 10) (ac (s_callP (fn_okP (ok__law_ce_through W)) (hr.mono (by decide)) rfl W.g__law_ce_through W.F__law_ce_through.kp W.b__law_ce_through .nil (by intro _ _ _; simp only [RVs]) (ac (s_str) (ac (s_lst (ac (s_int) (ac (s_int) (a_nil)))) (ac (s_lst (a_nil)) (a_nil)))) pass0) (a_nil)))))) (a_nil)))))) (ss_cons (s_set S.nd rfl (by first | exact .inl rfl | exact .inr rfl) (s_callP (fn_okP (ok__law_ce_made W)) (hr.mono (by decide)) rfl W.g__law_ce_made W.F__law_ce_made.kp W.b__law_ce_made .nil (by intro _ _ _; simp only [RVs]) (ac (sv 11) (a_nil)) pass0)) (ss_cons (s_set S.nd rfl (by first | exact .inl rfl | exact .inr rfl) (s_callP (fn_okP (ok__law_rails_rows W)) (hr.mono (by decide)) rfl W.g__law_rails_rows W.F__law_rails_rows.kp W.b__law_rails_rows .nil (by intro _ _ _; simp only [RVs]) (ac (sv 4) (ac (sv 5) (ac (sv 6) (ac (sv 7) (ac (sv 8) (a_nil)))))) pass0)) (ss_cons (s_ifS (tor (t_cmp (cmp_ok rfl (r65 hr)) .ne (s_callB b_repr (call_reprD rfl hr.units) rfl W.n_repr rfl (ac (s_fld W.facts rfl (n := 12) (show 12 < 13 by decide) (s_callP (fn_okP (ok_deed_of W)) (hr.mono (by decide)) rfl W.g_deed_of W.F_deed_of.kp W.b_deed_of .nil (by intro _ _ _; simp only [RVs]) (ac (s_make (c := 2) (show 2 < 4 by decide) W.mk_Word (ok_Word___init__ W) (hr.mono (by decide)) rfl W.g_Word W.b_Word___init__ .nil (by intro _ _ _; simp only [RVs]) (ac (sv 12) (ac (s_lst (ac (s_str) (ac (s_str) (ac (s_str) (a_nil))))) (a_nil))) pass0) (a_nil)) pass0) rfl) (a_nil))) (s_callB b_repr (call_reprD rfl hr.units) rfl W.n_repr rfl (ac (sv 13) (a_nil))) rfl) (t_or1 (t_cmp (cmp_ok rfl (r65 hr)) .ne (s_fld W.facts rfl (n := 12) (show 12 < 13 by decide) (s_callP (fn_okP (ok_deed_of W)) (hr.mono (by decide)) rfl W.g_deed_of W.F_deed_of.kp W.b_deed_of .nil (by intro _ _ _; simp only [RVs]) (ac (s_make (c := 2) (show 2 < 4 by decide) W.mk_Word (ok_Word___init__ W) (hr.mono (by decide)) rfl W.g_Word W.b_Word___init__ .nil (by intro _ _ _; simp only [RVs]) (ac (sv 12) (ac (s_lst (ac (s_str) (a_nil))) (a_nil))) pass0) (a_nil)) pass0) rfl) (s_callP (fn_okP (ok__law_rails_rows W)) (hr.mono (by decide)) rfl W.g__law_rails_rows W.F__law_rails_rows.kp W.b__law_rails_rows .nil (by intro _ _ _; simp only [RVs]) (ac (sv 4) (ac (sv 5) (ac (sv 6) (ac (s_int) (ac (s_int) (a_nil)))))) pass0) rfl))) (ss_one (s_ret (s_bl))) (ss_nil)) (ss_cons (s_ifS (tor (t_ownNe (fn_okP (ok_Deed___eq__ W)) (hr.mono (by decide)) W.b_Deed___eq__ pass0 W.own_Deed (s_callP (fn_okP (ok_kind_deed W)) (hr.mono (by decide)) rfl W.g_kind_deed W.F_kind_deed.kp W.b_kind_deed .nil (by intro _ _ _; simp only [RVs]) (ac (sv 12) (ac (s_str) (a_nil))) pass0) (s_callP (fn_okP (ok_empty_deed W)) (hr.mono (by decide)) rfl W.g_empty_deed W.F_empty_deed.kp W.b_empty_deed .nil (by intro _ _ _; simp only [RVs]) (ac (sv 12) (a_nil)) pass0) rfl) (t_or (t_not (t_truth rfl (s_callP (fn_okP (ok_may_swap W)) (hr.mono (by decide)) rfl W.g_may_swap W.F_may_swap.kp W.b_may_swap .nil (by intro _ _ _; simp only [RVs]) (ac (s_make (c := 2) (show 2 < 4 by decide) W.mk_Word (ok_Word___init__ W) (hr.mono (by decide)) rfl W.g_Word W.b_Word___init__ .nil (by intro _ _ _; simp only [RVs]) (ac (sv 12) (ac (s_lst (ac (s_str) (ac (s_str) (a_nil)))) (a_nil))) pass0) (ac (s_make (c := 2) (show 2 < 4 by decide) W.mk_Word (ok_Word___init__ W) (hr.mono (by decide)) rfl W.g_Word W.b_Word___init__ .nil (by intro _ _ _; simp only [RVs]) (ac (sv 12) (ac (s_lst (ac (s_str) (a_nil))) (a_nil))) pass0) (a_nil))) pass0) (by intro _; rfl))) (t_or1 (t_not (t_truth rfl (s_callP (fn_okP (ok_may_swap W)) (hr.mono (by decide)) rfl W.g_may_swap W.F_may_swap.kp W.b_may_swap .nil (by intro _ _ _; simp only [RVs]) (ac (s_make (c := 2) (show 2 < 4 by decide) W.mk_Word (ok_Word___init__ W) (hr.mono (by decide)) rfl W.g_Word W.b_Word___init__ .nil (by intro _ _ _; simp only [RVs]) (ac (sv 12) (ac (s_lst (ac (s_str) (ac (s_str) (a_nil)))) (a_nil))) pass0) (ac (s_make (c := 2) (show 2 < 4 by decide) W.mk_Word (ok_Word___init__ W) (hr.mono (by decide)) rfl W.g_Word W.b_Word___init__ .nil (by intro _ _ _; simp only [RVs]) (ac (sv 12) (ac (s_lst (ac (s_str) (ac (s_str) (a_nil)))) (a_nil))) pass0) (a_nil))) pass0) (by intro _; rfl)))))) (ss_one (s_ret (s_bl))) (ss_nil)) (ss_cons (s_set S.nd rfl (by first | exact .inl rfl | exact .inr rfl) (s_call (ok__law_draw W) (hr.mono (by decide)) rfl W.g__law_draw W.F__law_draw.kp W.b__law_draw .nil (by intro _ _ _; simp only [RVs]) (ac (sv 1) (ac (s_int) (a_nil))) pass0)) (ss_cons (s_set S.nd rfl (by first | exact .inl rfl | exact .inr rfl) (s_make (c := 2) (show 2 < 4 by decide) W.mk_Word (ok_Word___init__ W) (hr.mono (by decide)) rfl W.g_Word W.b_Word___init__ .nil (by intro _ _ _; simp only [RVs]) (ac (sv 12) (ac (s_bin rfl .add (s_bin rfl .add (s_bin rfl .mul (s_lst (ac (s_str) (a_nil))) (sv 14)) (s_bin rfl .mul (s_lst (ac (s_str) (a_nil))) (s_call (ok__law_draw W) (hr.mono (by decide)) rfl W.g__law_draw W.F__law_draw.kp W.b__law_draw .nil (by intro _ _ _; simp only [RVs]) (ac (sv 1) (ac (s_int) (a_nil))) pass0))) (s_bin rfl .mul (s_lst (ac (s_str) (a_nil))) (s_call (ok__law_draw W) (hr.mono (by decide)) rfl W.g__law_draw W.F__law_draw.kp W.b__law_draw .nil (by intro _ _ _; simp only [RVs]) (ac (sv 1) (ac (s_int) (a_nil))) pass0))) (a_nil))) pass0)) (ss_cons (s_set S.nd rfl (by first | exact .inl rfl | exact .inr rfl) (s_bin rfl .mul (sv 7) (s_tct rfl (s_fld W.facts rfl (n := 9) (show 9 < 13 by decide) (sv 15) rfl) (s_str)))) (ss_cons (s_ifS (t_cmp (cmp_ok rfl (r65 hr)) .ne (s_callB b_repr (call_reprD rfl hr.units) rfl W.n_repr rfl (ac (s_fld W.facts rfl (n := 12) (show 12 < 13 by decide) (s_callP (fn_okP (ok_deed_of W)) (hr.mono (by decide)) rfl W.g_deed_of W.F_deed_of.kp W.b_deed_of .nil (by intro _ _ _; simp only [RVs]) (ac (sv 15) (a_nil)) pass0) rfl) (a_nil))) (s_callB b_repr (call_reprD rfl hr.units) rfl W.n_repr rfl (ac (s_tup (ac (s_tup (ac (s_int) (ac (s_int) (a_nil)))) (ac (s_tup (ac (s_int) (ac (s_callB b_max (call_maxB rfl hr.units) rfl W.n_max rfl (ac (s_int) (ac (s_bin rfl .sub (sv 4) (sv 16)) (a_nil)))) (a_nil)))) (a_nil)))) (a_nil))) rfl) (ss_one (s_ret (s_bl))) (ss_nil)) (ss_cons (s_set S.nd rfl (by first | exact .inl rfl | exact .inr rfl) (s_make (c := 1) (show 1 < 4 by decide) W.mk_Kit (ok_Kit___init__ W) (hr.mono (by decide)) rfl W.g_Kit W.b_Kit___init__ .nil (by intro _ _ _; simp only [RVs]) (ac (sv 3) (ac (s_int) (ac (s_lst (ac (s_make (c := 0) (show 0 < 4 by decide) W.mk_Kind (ok_Kind___init__ W) (hr.mono (by decide)) rfl W.g_Kind W.b_Kind___init__ .nil (by intro _ _ _; simp only [RVs]) (ac (s_str) (ac (s_lst (ac (s_str) (ac (s_str) (ac (s_str) (ac (s_str) (a_nil)))))) (ac (s_lst (ac (s_str) (ac (s_str) (a_nil)))) (ac (s_lst (ac (s_str) (ac (s_str) (a_nil)))) (ac (s_bin rfl .add (s_bin rfl .mul (s_lst (ac (s_lst (ac (s_str) (ac (s_str) (a_nil)))) (a_nil))) (sv 4)) (s_bin rfl .mul (s_lst (ac (s_lst (ac (s_str) (ac (s_str) (a_nil)))) (a_nil))) (sv 4))) (a_nil)))))) pass0) (a_nil))) (a_nil)))) pass0)) (ss_cons (s_ifS (t_ownNe (fn_okP (ok_Deed___eq__ W)) (hr.mono (by decide)) W.b_Deed___eq__ pass0 W.own_Deed (s_callP (fn_okP (ok_deed_of W)) (hr.mono (by decide)) rfl W.g_deed_of W.F_deed_of.kp W.b_deed_of .nil (by intro _ _ _; simp only [RVs]) (ac (s_make (c := 2) (show 2 < 4 by decide) W.mk_Word (ok_Word___init__ W) (hr.mono (by decide)) rfl W.g_Word W.b_Word___init__ .nil (by intro _ _ _; simp only [RVs]) (ac (sv 17) (ac (s_bin rfl .mul (s_lst (ac (s_str) (a_nil))) (s_call (ok__law_draw W) (hr.mono (by decide)) rfl W.g__law_draw W.F__law_draw.kp W.b__law_draw .nil (by intro _ _ _; simp only [RVs]) (ac (sv 1) (ac (s_int) (a_nil))) pass0)) (a_nil))) pass0) (a_nil)) pass0) (s_callP (fn_okP (ok_empty_deed W)) (hr.mono (by decide)) rfl W.g_empty_deed W.F_empty_deed.kp W.b_empty_deed .nil (by intro _ _ _; simp only [RVs]) (ac (sv 17) (a_nil)) pass0) rfl) (ss_one (s_ret (s_bl))) (ss_nil)) (ss_cons (s_set S.nd rfl (by first | exact .inl rfl | exact .inr rfl) (s_bin rfl .add (s_int) (s_call (ok__law_draw W) (hr.mono (by decide)) rfl W.g__law_draw W.F__law_draw.kp W.b__law_draw .nil (by intro _ _ _; simp only [RVs]) (ac (sv 1) (ac (s_int) (a_nil))) pass0))) (ss_one (s_ifS (t_cmp (cmp_ok rfl (r65 hr)) .ne (s_fld W.facts rfl (n := 12) (show 12 < 13 by decide) (s_callP (fn_okP (ok_deed_of W)) (hr.mono (by decide)) rfl W.g_deed_of W.F_deed_of.kp W.b_deed_of .nil (by intro _ _ _; simp only [RVs]) (ac (s_make (c := 2) (show 2 < 4 by decide) W.mk_Word (ok_Word___init__ W) (hr.mono (by decide)) rfl W.g_Word W.b_Word___init__ .nil (by intro _ _ _; simp only [RVs]) (ac (sv 12) (ac (s_bin rfl .mul (s_lst (ac (s_str) (a_nil))) (sv 14)) (a_nil))) pass0) (a_nil)) pass0) rfl) (s_callP (fn_okP (ok__law_ce_deed W)) (hr.mono (by decide)) rfl W.g__law_ce_deed W.F__law_ce_deed.kp W.b__law_ce_deed .nil (by intro _ _ _; simp only [RVs]) (ac (sv 11) (ac (s_callP (fn_okP (ok__law_ce_steps W)) (hr.mono (by decide)) rfl W.g__law_ce_steps W.F__law_ce_steps.kp W.b__law_ce_steps .nil (by intro _ _ _; simp only [RVs]) (ac (sv 11) (a_nil)) pass0) (ac (s_bin rfl .mul (s_tup (ac (s_str) (a_nil))) (sv 14)) (a_nil)))) pass0) rfl) (ss_one (s_ret (s_bl))) (ss_nil))))))))))))))))))))) (ss_one (s_ret (s_bl))))
end
end L22

namespace L22
open PySem PySem.Spec PyProof.Rows L2 Iv
section
variable {P : Program} {w : World} {K : PySem.W.Frag} {mg : Str → Option Value} {base : Heap}
theorem ck_at {K : PySem.W.Frag} (c : ckB K = true) {i : Nat} {b : Bool} (h : (ckL K)[i]? = some b) : b = true := List.all_eq_true.mp c b (List.mem_of_getElem? h)
theorem wf_of {h : Heap} (X : K.In h) (N : h.Ns mainGlobals mg) (c : He.SaysD faL fnL K) (ck : ckB K = true) : Nonempty (WF P w K mg) := by
  obtain ⟨fd0, F0⟩ := c.def_ 0 rfl
  obtain ⟨fd1, F1⟩ := c.def_ 1 rfl
  obtain ⟨fd2, F2⟩ := c.def_ 2 rfl
  obtain ⟨fd3, F3⟩ := c.def_ 3 rfl
  obtain ⟨fd4, F4⟩ := c.def_ 4 rfl
  obtain ⟨fd5, F5⟩ := c.def_ 5 rfl
  obtain ⟨fd6, F6⟩ := c.def_ 6 rfl
  obtain ⟨fd7, F7⟩ := c.def_ 7 rfl
  obtain ⟨fd8, F8⟩ := c.def_ 8 rfl
  obtain ⟨fd9, F9⟩ := c.def_ 9 rfl
  obtain ⟨fd10, F10⟩ := c.def_ 10 rfl
  obtain ⟨fd11, F11⟩ := c.def_ 11 rfl
  obtain ⟨fd12, F12⟩ := c.def_ 12 rfl
  obtain ⟨fd13, F13⟩ := c.def_ 13 rfl
  obtain ⟨fd14, F14⟩ := c.def_ 14 rfl
  obtain ⟨fd15, F15⟩ := c.def_ 15 rfl
  obtain ⟨fd16, F16⟩ := c.def_ 16 rfl
  obtain ⟨fd17, F17⟩ := c.def_ 17 rfl
  obtain ⟨fd18, F18⟩ := c.def_ 18 rfl
  obtain ⟨fd19, F19⟩ := c.def_ 19 rfl
  obtain ⟨fd20, F20⟩ := c.def_ 20 rfl
  obtain ⟨fd21, F21⟩ := c.def_ 21 rfl
  obtain ⟨fd22, F22⟩ := c.def_ 22 rfl
  obtain ⟨fd23, F23⟩ := c.def_ 23 rfl
  obtain ⟨fd24, F24⟩ := c.def_ 24 rfl
  obtain ⟨fd25, F25⟩ := c.def_ 25 rfl
  obtain ⟨fd26, F26⟩ := c.def_ 26 rfl
  obtain ⟨fd27, F27⟩ := c.def_ 27 rfl
  obtain ⟨fd28, F28⟩ := c.def_ 28 rfl
  obtain ⟨fd29, F29⟩ := c.def_ 29 rfl
  obtain ⟨fd30, F30⟩ := c.def_ 30 rfl
  obtain ⟨fd31, F31⟩ := c.def_ 31 rfl
  obtain ⟨fd32, F32⟩ := c.def_ 32 rfl
  obtain ⟨fd33, F33⟩ := c.def_ 33 rfl
  obtain ⟨fd34, F34⟩ := c.def_ 34 rfl
  obtain ⟨fd35, F35⟩ := c.def_ 35 rfl
  obtain ⟨fd36, F36⟩ := c.def_ 36 rfl
  obtain ⟨fd37, F37⟩ := c.def_ 37 rfl
  obtain ⟨fd38, F38⟩ := c.def_ 38 rfl
  obtain ⟨fd39, F39⟩ := c.def_ 39 rfl
  obtain ⟨fd40, F40⟩ := c.def_ 40 rfl
  obtain ⟨fd41, F41⟩ := c.def_ 41 rfl
  obtain ⟨fd42, F42⟩ := c.def_ 42 rfl
  obtain ⟨fd43, F43⟩ := c.def_ 43 rfl
  obtain ⟨fd44, F44⟩ := c.def_ 44 rfl
  obtain ⟨fd45, F45⟩ := c.def_ 45 rfl
  obtain ⟨fd46, F46⟩ := c.def_ 46 rfl
  obtain ⟨fd47, F47⟩ := c.def_ 47 rfl
  obtain ⟨fd48, F48⟩ := c.def_ 48 rfl
  obtain ⟨fd49, F49⟩ := c.def_ 49 rfl
  obtain ⟨fd50, F50⟩ := c.def_ 50 rfl
  obtain ⟨fd51, F51⟩ := c.def_ 51 rfl
  obtain ⟨fd52, F52⟩ := c.def_ 52 rfl
  obtain ⟨fd53, F53⟩ := c.def_ 53 rfl
  obtain ⟨fd54, F54⟩ := c.def_ 54 rfl
  obtain ⟨fd55, F55⟩ := c.def_ 55 rfl
  obtain ⟨fd56, F56⟩ := c.def_ 56 rfl
  obtain ⟨fd57, F57⟩ := c.def_ 57 rfl
  obtain ⟨fd58, F58⟩ := c.def_ 58 rfl
  obtain ⟨fd59, F59⟩ := c.def_ 59 rfl
  obtain ⟨fd60, F60⟩ := c.def_ 60 rfl
  obtain ⟨fd61, F61⟩ := c.def_ 61 rfl
  obtain ⟨fd62, F62⟩ := c.def_ 62 rfl
  obtain ⟨fd63, F63⟩ := c.def_ 63 rfl
  obtain ⟨fd64, F64⟩ := c.def_ 64 rfl
  obtain ⟨fd65, F65⟩ := c.def_ 65 rfl
  obtain ⟨fd66, F66⟩ := c.def_ 66 rfl
  obtain ⟨fd67, F67⟩ := c.def_ 67 rfl
  obtain ⟨fd68, F68⟩ := c.def_ 68 rfl
  obtain ⟨fd69, F69⟩ := c.def_ 69 rfl
  obtain ⟨fd70, F70⟩ := c.def_ 70 rfl
  obtain ⟨fd71, F71⟩ := c.def_ 71 rfl
  exact ⟨{
    fd_is_integer := (fd0),
    F_is_integer := (F0),
    b_is_integer := (FunD.bindsN (ps := ["value"]) F0 fun _ _ _ _ _ _ us hl => match us, hl with | [_], _ => rfl),
    g_is_integer := (He.glo_ok X N (c.fact 0 rfl)),
    fd_is_between := (fd1),
    F_is_between := (F1),
    b_is_between := (FunD.bindsN (ps := ["value", "least", "most"]) F1 fun _ _ _ _ _ _ us hl => match us, hl with | [_, _, _], _ => rfl),
    g_is_between := (He.glo_ok X N (c.fact 1 rfl)),
    fd_is_name := (fd2),
    F_is_name := (F2),
    b_is_name := (FunD.bindsN (ps := ["value"]) F2 fun _ _ _ _ _ _ us hl => match us, hl with | [_], _ => rfl),
    g_is_name := (He.glo_ok X N (c.fact 2 rfl)),
    fd_is_listed := (fd3),
    F_is_listed := (F3),
    b_is_listed := (FunD.bindsN (ps := ["value"]) F3 fun _ _ _ _ _ _ us hl => match us, hl with | [_], _ => rfl),
    g_is_listed := (He.glo_ok X N (c.fact 3 rfl)),
    fd_ascends := (fd4),
    F_ascends := (F4),
    b_ascends := (FunD.bindsN (ps := ["some"]) F4 fun _ _ _ _ _ _ us hl => match us, hl with | [_], _ => rfl),
    g_ascends := (He.glo_ok X N (c.fact 4 rfl)),
    fd_are_unlike := (fd5),
    F_are_unlike := (F5),
    b_are_unlike := (FunD.bindsN (ps := ["some"]) F5 fun _ _ _ _ _ _ us hl => match us, hl with | [_], _ => rfl),
    g_are_unlike := (He.glo_ok X N (c.fact 5 rfl)),
    fd_are_names := (fd6),
    F_are_names := (F6),
    b_are_names := (FunD.bindsN (ps := ["value", "least", "most"]) F6 fun _ _ _ _ _ _ us hl => match us, hl with | [_, _, _], _ => rfl),
    g_are_names := (He.glo_ok X N (c.fact 6 rfl)),
    fd_blocks_of := (fd7),
    F_blocks_of := (F7),
    b_blocks_of := (FunD.bindsN (ps := ["parting"]) F7 fun _ _ _ _ _ _ us hl => match us, hl with | [_], _ => rfl),
    g_blocks_of := (He.glo_ok X N (c.fact 7 rfl)),
    fd_told_by := (fd8),
    F_told_by := (F8),
    b_told_by := (FunD.bindsN (ps := ["labels"]) F8 fun _ _ _ _ _ _ us hl => match us, hl with | [_], _ => rfl),
    g_told_by := (He.glo_ok X N (c.fact 8 rfl)),
    fd_is_over := (fd9),
    F_is_over := (F9),
    b_is_over := (FunD.bindsN (ps := ["one", "other"]) F9 fun _ _ _ _ _ _ us hl => match us, hl with | [_, _], _ => rfl),
    g_is_over := (He.glo_ok X N (c.fact 9 rfl)),
    fd_partings_of := (fd10),
    F_partings_of := (F10),
    b_partings_of := (FunD.bindsN (ps := ["many"]) F10 fun _ _ _ _ _ _ us hl => match us, hl with | [_], _ => rfl),
    g_partings_of := (He.glo_ok X N (c.fact 10 rfl)),
    fd_finest := (fd11),
    F_finest := (F11),
    b_finest := (FunD.bindsN (ps := ["many"]) F11 fun _ _ _ _ _ _ us hl => match us, hl with | [_], _ => rfl),
    g_finest := (He.glo_ok X N (c.fact 11 rfl)),
    fd_passing_in := (fd12),
    F_passing_in := (F12),
    b_passing_in := (FunD.bindsN (ps := ["ropes", "grouping"]) F12 fun _ _ _ _ _ _ us hl => match us, hl with | [_, _], _ => rfl),
    g_passing_in := (He.glo_ok X N (c.fact 12 rfl)),
    fd_is_rope := (fd13),
    F_is_rope := (F13),
    b_is_rope := (FunD.bindsN (ps := ["value", "pieces"]) F13 fun _ _ _ _ _ _ us hl => match us, hl with | [_, _], _ => rfl),
    g_is_rope := (He.glo_ok X N (c.fact 13 rfl)),
    fd_are_ropes := (fd14),
    F_are_ropes := (F14),
    b_are_ropes := (FunD.bindsN (ps := ["value", "pieces"]) F14 fun _ _ _ _ _ _ us hl => match us, hl with | [_, _], _ => rfl),
    g_are_ropes := (He.glo_ok X N (c.fact 14 rfl)),
    fd_are_joints := (fd15),
    F_are_joints := (F15),
    b_are_joints := (FunD.bindsN (ps := ["value", "pieces", "least", "most"]) F15 fun _ _ _ _ _ _ us hl => match us, hl with | [_, _, _, _], _ => rfl),
    g_are_joints := (He.glo_ok X N (c.fact 15 rfl)),
    fd_Kind___init__ := (fd16),
    F_Kind___init__ := (F16),
    b_Kind___init__ := (FunD.bindsN (ps := ["self", "name", "pieces", "low", "high", "ropes"]) F16 fun _ _ _ _ _ _ us hl => match us, hl with | [_, _, _, _, _, _], _ => rfl),
    fd_numbers_in := (fd17),
    F_numbers_in := (F17),
    b_numbers_in := (FunD.bindsN (ps := ["kind"]) F17 fun _ _ _ _ _ _ us hl => match us, hl with | [_], _ => rfl),
    g_numbers_in := (He.glo_ok X N (c.fact 16 rfl)),
    fd_pairs_in := (fd18),
    F_pairs_in := (F18),
    b_pairs_in := (FunD.bindsN (ps := ["kind"]) F18 fun _ _ _ _ _ _ us hl => match us, hl with | [_], _ => rfl),
    g_pairs_in := (He.glo_ok X N (c.fact 17 rfl)),
    fd_are_kinds := (fd19),
    F_are_kinds := (F19),
    b_are_kinds := (FunD.bindsN (ps := ["value", "joints"]) F19 fun _ _ _ _ _ _ us hl => match us, hl with | [_, _], _ => rfl),
    g_are_kinds := (He.glo_ok X N (c.fact 18 rfl)),
    fd_Kit___init__ := (fd20),
    F_Kit___init__ := (F20),
    b_Kit___init__ := (FunD.bindsN (ps := ["self", "dimension", "joints", "kinds"]) F20 fun _ _ _ _ _ _ us hl => match us, hl with | [_, _, _, _], _ => rfl),
    fd_Kit_kind := (fd21),
    F_Kit_kind := (F21),
    b_Kit_kind := (FunD.bindsN (ps := ["self", "name"]) F21 fun _ _ _ _ _ _ us hl => match us, hl with | [_, _], _ => rfl),
    mt_Kit_kind := (He.meth_ok (c.fact 19 rfl)),
    fd_need_kit := (fd22),
    F_need_kit := (F22),
    b_need_kit := (binds_nil (FunD.binds1 (ps := ["value", "part"]) F22 2 1 (List.cons_ne_nil _ _) rfl fun _ _ _ _ _ _ _ us its h1 h2 => match us, its, h1, h2 with | [_, _], [_], _, _ => ⟨_, rfl, rfl⟩)),
    bd1_need_kit := (FunD.binds1 (ps := ["value", "part"]) F22 1 0 (List.cons_ne_nil _ _) rfl fun _ _ _ _ _ _ _ us its h1 h2 => match us, its, h1, h2 with | [_], [_], _, _ => ⟨_, rfl, rfl⟩),
    g_need_kit := (He.glo_ok X N (c.fact 20 rfl)),
    fd_need_grade := (fd23),
    F_need_grade := (F23),
    b_need_grade := (FunD.bindsN (ps := ["value"]) F23 fun _ _ _ _ _ _ us hl => match us, hl with | [_], _ => rfl),
    g_need_grade := (He.glo_ok X N (c.fact 21 rfl)),
    fd_joint_partings := (fd24),
    F_joint_partings := (F24),
    b_joint_partings := (FunD.bindsN (ps := ["joints"]) F24 fun _ _ _ _ _ _ us hl => match us, hl with | [_], _ => rfl),
    g_joint_partings := (He.glo_ok X N (c.fact 22 rfl)),
    fd_cuts_of := (fd25),
    F_cuts_of := (F25),
    b_cuts_of := (FunD.bindsN (ps := ["joints"]) F25 fun _ _ _ _ _ _ us hl => match us, hl with | [_], _ => rfl),
    g_cuts_of := (He.glo_ok X N (c.fact 23 rfl)),
    fd_steps_of := (fd26),
    F_steps_of := (F26),
    b_steps_of := (FunD.bindsN (ps := ["joints"]) F26 fun _ _ _ _ _ _ us hl => match us, hl with | [_], _ => rfl),
    g_steps_of := (He.glo_ok X N (c.fact 24 rfl)),
    fd_joins_of := (fd27),
    F_joins_of := (F27),
    b_joins_of := (FunD.bindsN (ps := ["joints"]) F27 fun _ _ _ _ _ _ us hl => match us, hl with | [_], _ => rfl),
    g_joins_of := (He.glo_ok X N (c.fact 25 rfl)),
    fd_fixed := (fd28),
    F_fixed := (F28),
    b_fixed := (FunD.bindsN (ps := ["value"]) F28 fun _ _ _ _ _ _ us hl => match us, hl with | [_], _ => rfl),
    g_fixed := (He.glo_ok X N (c.fact 26 rfl)),
    fd_storey_on := (fd29),
    F_storey_on := (F29),
    b_storey_on := (FunD.bindsN (ps := ["kind", "top", "many"]) F29 fun _ _ _ _ _ _ us hl => match us, hl with | [_, _, _], _ => rfl),
    g_storey_on := (He.glo_ok X N (c.fact 27 rfl)),
    fd_high_of := (fd30),
    F_high_of := (F30),
    b_high_of := (FunD.bindsN (ps := ["kind", "row"]) F30 fun _ _ _ _ _ _ us hl => match us, hl with | [_, _], _ => rfl),
    g_high_of := (He.glo_ok X N (c.fact 28 rfl)),
    fd_are_kinds_of := (fd31),
    F_are_kinds_of := (F31),
    b_are_kinds_of := (FunD.bindsN (ps := ["kit", "value"]) F31 fun _ _ _ _ _ _ us hl => match us, hl with | [_, _], _ => rfl),
    g_are_kinds_of := (He.glo_ok X N (c.fact 29 rfl)),
    fd_Word___init__ := (fd32),
    F_Word___init__ := (F32),
    b_Word___init__ := (FunD.bindsN (ps := ["self", "kit", "names"]) F32 fun _ _ _ _ _ _ us hl => match us, hl with | [_, _, _], _ => rfl),
    fd_need_word := (fd33),
    F_need_word := (F33),
    b_need_word := (binds_nil (FunD.binds1 (ps := ["value", "part"]) F33 2 1 (List.cons_ne_nil _ _) rfl fun _ _ _ _ _ _ _ us its h1 h2 => match us, its, h1, h2 with | [_, _], [_], _, _ => ⟨_, rfl, rfl⟩)),
    bd1_need_word := (FunD.binds1 (ps := ["value", "part"]) F33 1 0 (List.cons_ne_nil _ _) rfl fun _ _ _ _ _ _ _ us its h1 h2 => match us, its, h1, h2 with | [_], [_], _, _ => ⟨_, rfl, rfl⟩),
    g_need_word := (He.glo_ok X N (c.fact 30 rfl)),
    fd_need_two_words := (fd34),
    F_need_two_words := (F34),
    b_need_two_words := (FunD.bindsN (ps := ["one", "other"]) F34 fun _ _ _ _ _ _ us hl => match us, hl with | [_, _], _ => rfl),
    g_need_two_words := (He.glo_ok X N (c.fact 31 rfl)),
    fd_is_row := (fd35),
    F_is_row := (F35),
    b_is_row := (FunD.bindsN (ps := ["value", "joints"]) F35 fun _ _ _ _ _ _ us hl => match us, hl with | [_, _], _ => rfl),
    g_is_row := (He.glo_ok X N (c.fact 32 rfl)),
    fd_is_steady := (fd36),
    F_is_steady := (F36),
    b_is_steady := (FunD.bindsN (ps := ["row", "grade", "joints"]) F36 fun _ _ _ _ _ _ us hl => match us, hl with | [_, _, _], _ => rfl),
    g_is_steady := (He.glo_ok X N (c.fact 33 rfl)),
    fd_are_rows := (fd37),
    F_are_rows := (F37),
    b_are_rows := (FunD.bindsN (ps := ["value", "grade", "joints"]) F37 fun _ _ _ _ _ _ us hl => match us, hl with | [_, _, _], _ => rfl),
    g_are_rows := (He.glo_ok X N (c.fact 34 rfl)),
    fd_Deed___init__ := (fd38),
    F_Deed___init__ := (F38),
    b_Deed___init__ := (FunD.bindsN (ps := ["self", "grade", "joints", "rows"]) F38 fun _ _ _ _ _ _ us hl => match us, hl with | [_, _, _, _], _ => rfl),
    fd_Deed___eq__ := (fd39),
    F_Deed___eq__ := (F39),
    b_Deed___eq__ := (FunD.bindsN (ps := ["self", "other"]) F39 fun _ _ _ _ _ _ us hl => match us, hl with | [_, _], _ => rfl),
    fd_lost_deed := (fd40),
    F_lost_deed := (F40),
    b_lost_deed := (FunD.bindsN (ps := ["grade", "joints"]) F40 fun _ _ _ _ _ _ us hl => match us, hl with | [_, _], _ => rfl),
    g_lost_deed := (He.glo_ok X N (c.fact 35 rfl)),
    fd_empty_rows := (fd41),
    F_empty_rows := (F41),
    b_empty_rows := (FunD.bindsN (ps := ["grade", "joints"]) F41 fun _ _ _ _ _ _ us hl => match us, hl with | [_, _], _ => rfl),
    g_empty_rows := (He.glo_ok X N (c.fact 36 rfl)),
    fd_exact_rows := (fd42),
    F_exact_rows := (F42),
    b_exact_rows := (FunD.bindsN (ps := ["grade", "kind"]) F42 fun _ _ _ _ _ _ us hl => match us, hl with | [_, _], _ => rfl),
    g_exact_rows := (He.glo_ok X N (c.fact 37 rfl)),
    fd_kind_rows := (fd43),
    F_kind_rows := (F43),
    b_kind_rows := (FunD.bindsN (ps := ["grade", "kind"]) F43 fun _ _ _ _ _ _ us hl => match us, hl with | [_, _], _ => rfl),
    g_kind_rows := (He.glo_ok X N (c.fact 38 rfl)),
    fd_made_deed := (fd44),
    F_made_deed := (F44),
    b_made_deed := (FunD.bindsN (ps := ["grade", "joints", "rows"]) F44 fun _ _ _ _ _ _ us hl => match us, hl with | [_, _, _], _ => rfl),
    g_made_deed := (He.glo_ok X N (c.fact 39 rfl)),
    fd_after_rows := (fd45),
    F_after_rows := (F45),
    b_after_rows := (FunD.bindsN (ps := ["grade", "joints", "one", "other"]) F45 fun _ _ _ _ _ _ us hl => match us, hl with | [_, _, _, _], _ => rfl),
    g_after_rows := (He.glo_ok X N (c.fact 40 rfl)),
    fd_put_after := (fd46),
    F_put_after := (F46),
    b_put_after := (FunD.bindsN (ps := ["one", "other"]) F46 fun _ _ _ _ _ _ us hl => match us, hl with | [_, _], _ => rfl),
    g_put_after := (He.glo_ok X N (c.fact 41 rfl)),
    fd_deed_of_names := (fd47),
    F_deed_of_names := (F47),
    b_deed_of_names := (FunD.bindsN (ps := ["kit", "deeds", "names"]) F47 fun _ _ _ _ _ _ us hl => match us, hl with | [_, _, _], _ => rfl),
    g_deed_of_names := (He.glo_ok X N (c.fact 42 rfl)),
    fd_kind_deeds := (fd48),
    F_kind_deeds := (F48),
    b_kind_deeds := (FunD.bindsN (ps := ["kit"]) F48 fun _ _ _ _ _ _ us hl => match us, hl with | [_], _ => rfl),
    g_kind_deeds := (He.glo_ok X N (c.fact 43 rfl)),
    fd_empty_deed := (fd49),
    F_empty_deed := (F49),
    b_empty_deed := (FunD.bindsN (ps := ["kit"]) F49 fun _ _ _ _ _ _ us hl => match us, hl with | [_], _ => rfl),
    g_empty_deed := (He.glo_ok X N (c.fact 44 rfl)),
    fd_kind_deed := (fd50),
    F_kind_deed := (F50),
    b_kind_deed := (FunD.bindsN (ps := ["kit", "name"]) F50 fun _ _ _ _ _ _ us hl => match us, hl with | [_, _], _ => rfl),
    g_kind_deed := (He.glo_ok X N (c.fact 45 rfl)),
    fd_deed_of := (fd51),
    F_deed_of := (F51),
    b_deed_of := (FunD.bindsN (ps := ["word"]) F51 fun _ _ _ _ _ _ us hl => match us, hl with | [_], _ => rfl),
    g_deed_of := (He.glo_ok X N (c.fact 46 rfl)),
    fd_may_swap := (fd52),
    F_may_swap := (F52),
    b_may_swap := (FunD.bindsN (ps := ["one", "other"]) F52 fun _ _ _ _ _ _ us hl => match us, hl with | [_, _], _ => rfl),
    g_may_swap := (He.glo_ok X N (c.fact 47 rfl)),
    fd__law_pen := (fd53),
    F__law_pen := (F53),
    b__law_pen := (FunD.bindsN (ps := ["script"]) F53 fun _ _ _ _ _ _ us hl => match us, hl with | [_], _ => rfl),
    g__law_pen := (He.glo_ok X N (c.fact 48 rfl)),
    fd__law_draw := (fd54),
    F__law_draw := (F54),
    b__law_draw := (FunD.bindsN (ps := ["pen", "many"]) F54 fun _ _ _ _ _ _ us hl => match us, hl with | [_, _], _ => rfl),
    g__law_draw := (He.glo_ok X N (c.fact 49 rfl)),
    fd__law_pick := (fd55),
    F__law_pick := (F55),
    b__law_pick := (FunD.bindsN (ps := ["pen", "some"]) F55 fun _ _ _ _ _ _ us hl => match us, hl with | [_, _], _ => rfl),
    g__law_pick := (He.glo_ok X N (c.fact 50 rfl)),
    fd__law_ce_partings := (fd56),
    F__law_ce_partings := (F56),
    b__law_ce_partings := (FunD.bindsN (ps := ["many"]) F56 fun _ _ _ _ _ _ us hl => match us, hl with | [_], _ => rfl),
    g__law_ce_partings := (He.glo_ok X N (c.fact 51 rfl)),
    fd__law_ce_told := (fd57),
    F__law_ce_told := (F57),
    b__law_ce_told := (FunD.bindsN (ps := ["labels"]) F57 fun _ _ _ _ _ _ us hl => match us, hl with | [_], _ => rfl),
    g__law_ce_told := (He.glo_ok X N (c.fact 52 rfl)),
    fd__law_ce_over := (fd58),
    F__law_ce_over := (F58),
    b__law_ce_over := (FunD.bindsN (ps := ["one", "other"]) F58 fun _ _ _ _ _ _ us hl => match us, hl with | [_, _], _ => rfl),
    g__law_ce_over := (He.glo_ok X N (c.fact 53 rfl)),
    fd__law_ce_join := (fd59),
    F__law_ce_join := (F59),
    b__law_ce_join := (FunD.bindsN (ps := ["one", "other"]) F59 fun _ _ _ _ _ _ us hl => match us, hl with | [_, _], _ => rfl),
    g__law_ce_join := (He.glo_ok X N (c.fact 54 rfl)),
    fd__law_ce_through := (fd60),
    F__law_ce_through := (F60),
    b__law_ce_through := (FunD.bindsN (ps := ["name", "turned", "pairs"]) F60 fun _ _ _ _ _ _ us hl => match us, hl with | [_, _, _], _ => rfl),
    g__law_ce_through := (He.glo_ok X N (c.fact 55 rfl)),
    fd__law_ce_rails := (fd61),
    F__law_ce_rails := (F61),
    b__law_ce_rails := (FunD.bindsN (ps := ["name", "many"]) F61 fun _ _ _ _ _ _ us hl => match us, hl with | [_, _], _ => rfl),
    g__law_ce_rails := (He.glo_ok X N (c.fact 56 rfl)),
    fd__law_ce_made := (fd62),
    F__law_ce_made := (F62),
    b__law_ce_made := (FunD.bindsN (ps := ["plain"]) F62 fun _ _ _ _ _ _ us hl => match us, hl with | [_], _ => rfl),
    g__law_ce_made := (He.glo_ok X N (c.fact 57 rfl)),
    fd__law_ce_grade := (fd63),
    F__law_ce_grade := (F63),
    b__law_ce_grade := (FunD.bindsN (ps := ["plain"]) F63 fun _ _ _ _ _ _ us hl => match us, hl with | [_], _ => rfl),
    g__law_ce_grade := (He.glo_ok X N (c.fact 58 rfl)),
    fd__law_ce_stack := (fd64),
    F__law_ce_stack := (F64),
    b__law_ce_stack := (FunD.bindsN (ps := ["kinds", "foot"]) F64 fun _ _ _ _ _ _ us hl => match us, hl with | [_, _], _ => rfl),
    g__law_ce_stack := (He.glo_ok X N (c.fact 59 rfl)),
    fd__law_ce_kind_rows := (fd65),
    F__law_ce_kind_rows := (F65),
    b__law_ce_kind_rows := (FunD.bindsN (ps := ["plain", "kind"]) F65 fun _ _ _ _ _ _ us hl => match us, hl with | [_, _], _ => rfl),
    g__law_ce_kind_rows := (He.glo_ok X N (c.fact 60 rfl)),
    fd__law_ce_empty := (fd66),
    F__law_ce_empty := (F66),
    b__law_ce_empty := (FunD.bindsN (ps := ["plain"]) F66 fun _ _ _ _ _ _ us hl => match us, hl with | [_], _ => rfl),
    g__law_ce_empty := (He.glo_ok X N (c.fact 61 rfl)),
    fd__law_ce_after := (fd67),
    F__law_ce_after := (F67),
    b__law_ce_after := (FunD.bindsN (ps := ["plain", "one", "other"]) F67 fun _ _ _ _ _ _ us hl => match us, hl with | [_, _, _], _ => rfl),
    g__law_ce_after := (He.glo_ok X N (c.fact 62 rfl)),
    fd__law_ce_steps := (fd68),
    F__law_ce_steps := (F68),
    b__law_ce_steps := (FunD.bindsN (ps := ["plain"]) F68 fun _ _ _ _ _ _ us hl => match us, hl with | [_], _ => rfl),
    g__law_ce_steps := (He.glo_ok X N (c.fact 63 rfl)),
    fd__law_ce_deed := (fd69),
    F__law_ce_deed := (F69),
    b__law_ce_deed := (FunD.bindsN (ps := ["plain", "steps", "names"]) F69 fun _ _ _ _ _ _ us hl => match us, hl with | [_, _, _], _ => rfl),
    g__law_ce_deed := (He.glo_ok X N (c.fact 64 rfl)),
    fd__law_rails_rows := (fd70),
    F__law_rails_rows := (F70),
    b__law_rails_rows := (FunD.bindsN (ps := ["grade", "first", "last", "below", "above"]) F70 fun _ _ _ _ _ _ us hl => match us, hl with | [_, _, _, _, _], _ => rfl),
    g__law_rails_rows := (He.glo_ok X N (c.fact 65 rfl)),
    fd_law := (fd71),
    F_law := (F71),
    b_law := (FunD.bindsN (ps := ["script"]) F71 fun _ _ _ _ _ _ us hl => match us, hl with | [_], _ => rfl),
    g_law := (He.glo_ok X N (c.fact 66 rfl)),
    cl_Kind := (He.cls_ok (c.fact 67 rfl)),
    g_Kind := (He.glo_ok X N (c.fact 68 rfl)),
    mk_Kind := (He.mkr_ok (c.fact 69 rfl)),
    cl_Kit := (He.cls_ok (c.fact 70 rfl)),
    g_Kit := (He.glo_ok X N (c.fact 71 rfl)),
    mk_Kit := (He.mkr_ok (c.fact 72 rfl)),
    cl_Word := (He.cls_ok (c.fact 73 rfl)),
    g_Word := (He.glo_ok X N (c.fact 74 rfl)),
    mk_Word := (He.mkr_ok (c.fact 75 rfl)),
    cl_Deed := (He.cls_ok (c.fact 76 rfl)),
    g_Deed := (He.glo_ok X N (c.fact 77 rfl)),
    mk_Deed := (He.mkr_ok (c.fact 78 rfl)),
    nm_kind := (by decide +kernel),
    n_abs := (He.free_ok X N (c.fact 79 rfl)),
    n_all := (He.free_ok X N (c.fact 80 rfl)),
    n_bool := (He.free_ok X N (c.fact 81 rfl)),
    n_dict := (He.free_ok X N (c.fact 82 rfl)),
    n_enumerate := (He.free_ok X N (c.fact 83 rfl)),
    n_int := (He.free_ok X N (c.fact 84 rfl)),
    n_isinstance := (He.free_ok X N (c.fact 85 rfl)),
    n_len := (He.free_ok X N (c.fact 86 rfl)),
    n_list := (He.free_ok X N (c.fact 87 rfl)),
    n_max := (He.free_ok X N (c.fact 88 rfl)),
    n_min := (He.free_ok X N (c.fact 89 rfl)),
    n_range := (He.free_ok X N (c.fact 90 rfl)),
    n_repr := (He.free_ok X N (c.fact 91 rfl)),
    n_set := (He.free_ok X N (c.fact 92 rfl)),
    n_sorted := (He.free_ok X N (c.fact 93 rfl)),
    n_str := (He.free_ok X N (c.fact 94 rfl)),
    n_sum := (He.free_ok X N (c.fact 95 rfl)),
    n_tuple := (He.free_ok X N (c.fact 96 rfl)),
    n_zip := (He.free_ok X N (c.fact 97 rfl)),
    own_Deed := (ownB_ok (ck_at ck (i := 0) rfl)),
    c_LETTERS := (cB_ok rfl X N (ck_at ck (i := 1) rfl)),
    c_SIGNS := (cB_ok rfl X N (ck_at ck (i := 2) rfl)),
    c_MOST_SIGNS := (cB_ok rfl X N (ck_at ck (i := 3) rfl)),
    c_MOST_PIECES := (cB_ok rfl X N (ck_at ck (i := 4) rfl)),
    c_MOST_JOINTS := (cB_ok rfl X N (ck_at ck (i := 5) rfl)),
    c_MOST_ROPES := (cB_ok rfl X N (ck_at ck (i := 6) rfl)),
    c_MOST_KINDS := (cB_ok rfl X N (ck_at ck (i := 7) rfl)),
    c_MOST_LONG := (cB_ok rfl X N (ck_at ck (i := 8) rfl)),
    c_GRADES := (cB_ok rfl X N (ck_at ck (i := 9) rfl)),
    c_JOINT_PARTINGS := (cB_ok rfl X N (ck_at ck (i := 10) rfl)),
    c_JOINT_CUTS := (cB_ok rfl X N (ck_at ck (i := 11) rfl)),
    c_JOINT_STEPS := (cB_ok rfl X N (ck_at ck (i := 12) rfl)),
    c_JOINT_JOINS := (cB_ok rfl X N (ck_at ck (i := 13) rfl)),
    facts := (facB_ok (cs := ["Kind", "Kit", "Word", "Deed"]) (fs := ["name", "pieces", "low", "high", "ropes", "dimension", "joints", "kinds", "grade", "names", "kit", "many", "rows"]) (by intro c h; match c, h with | 0, _ => exact ⟨_, rfl, rfl⟩ | 1, _ => exact ⟨_, rfl, rfl⟩ | 2, _ => exact ⟨_, rfl, rfl⟩ | 3, _ => exact ⟨_, rfl, rfl⟩ | n + 4, h => exact absurd h (by show ¬ n + 4 < 4; omega)) (by intro c h; match c, h with | 0, _ => rfl | 1, _ => rfl | 2, _ => rfl | 3, _ => rfl | 4, _ => rfl | 5, _ => rfl | 6, _ => rfl | 7, _ => rfl | 8, _ => rfl | 9, _ => rfl | 10, _ => rfl | 11, _ => rfl | 12, _ => rfl | n + 13, h => exact absurd h (by show ¬ n + 13 < 13; omega)) (by decide +kernel) rfl (ck_at ck (i := 14) rfl)),
    is_Deed := (isB_ok (G := GX P w K) (ck_at ck (i := 15) rfl)),
    is_Kind := (isB_ok (G := GX P w K) (ck_at ck (i := 16) rfl)),
    is_Kit := (isB_ok (G := GX P w K) (ck_at ck (i := 17) rfl)),
    is_Word := (isB_ok (G := GX P w K) (ck_at ck (i := 18) rfl)),
    is_bool := (isB_ok (G := GX P w K) (ck_at ck (i := 19) rfl)),
    is_int := (isB_ok (G := GX P w K) (ck_at ck (i := 20) rfl)),
    is_list_tuple := (isB_ok (G := GX P w K) (ck_at ck (i := 21) rfl)),
    is_str := (isB_ok (G := GX P w K) (ck_at ck (i := 22) rfl)) }⟩
end
end L22

/-! P22a: deeds of two joints, by numbers. -/
namespace L22
open PySem Iv L2
/-- a deed of two joints -/
def D (g y x z : Int) : IV := .ins 3 [8, 6, 12] [.int g, .int 2, .tpx [.tpx [.int 0, .int y], .tpx [.int x, .int z]]]
def DL (g : Int) : IV := .ins 3 [8, 6, 12] [.int g, .int 2, .tpx []]
def Gr (g : Int) : Prop := g = 1 ∨ g = 3 ∨ g = 6
theorem Gr.cases {g : Int} (h : Gr g) : g = 1 ∨ g = 3 ∨ g = 6 := h
theorem is_row_ok {a b : Int} : p_is_row [.lst [.int a, .int b], .int 2] = some (.bl true) := by kernel_rfl
theorem is_steady_ok {a b g : Int} (h1 : a ≤ b) (h2 : b ≤ a + g) : p_is_steady [.lst [.int a, .int b], .int g, .int 2] = some (.bl true) := by
  have c : p_steps_of [.int 2] = some (.tup [.tup [.int 1, .int 0, .int 1]]) := by kernel_rfl
  simp [p_is_steady, mf_is_steady, pureM, bodyM, m_is_steady, c, h1, h2]
structure Steady (g y x z : Int) : Prop where
  y0 : 0 ≤ y
  y1 : y ≤ g
  x0 : 0 ≤ x
  x1 : x ≤ g
  zx : x ≤ z
  zx1 : z ≤ x + g
  zy : y ≤ z
  zy1 : z ≤ y + g
theorem are_rows_ok {g y x z : Int} (h : Steady g y x z) : p_are_rows [.lst [.lst [.int 0, .int y], .lst [.int x, .int z]], .int g, .int 2] = some (.bl true) := by
  have c : p_cuts_of [.int 2] = some (.tup [.int 0, .int 1]) := by kernel_rfl
  have l : p_is_listed [.lst [.lst [.int 0, .int y], .lst [.int x, .int z]]] = some (.bl true) := by kernel_rfl
  have s1 := is_steady_ok (g := g) h.y0 (by have := h.y1; omega)
  have s2 := is_steady_ok h.zx h.zx1
  have s3 := is_steady_ok (g := g) h.x0 (by have := h.x1; omega)
  have s4 := is_steady_ok h.zy h.zy1
  have n1 : cmpI .notin (.int 2) (.tup [.int 0, .int 2]) = some false := by kernel_rfl
  have n2 : cmpI .eq (.int 2) (.int 0) = some false := by kernel_rfl
  have n3 : cmpI .ne (.int 0) (.int 0) = some false := by kernel_rfl
  simp [p_are_rows, mf_are_rows, pureM, bodyM, m_are_rows, c, l, is_row_ok, s1, s2, s3, s4, n1, n2, n3, rngI, List.range, List.range.loop]
theorem fixed_ok {y x z : Int} : pn_fixed 4 [.lst [.lst [.int 0, .int y], .lst [.int x, .int z]]] = some (.tpx [.tpx [.int 0, .int y], .tpx [.int x, .int z]]) := by kernel_rfl
theorem need_grade_ok {g : Int} (h : Gr g) : p_need_grade [.int g] = some (.int g) := by
  rcases h with rfl | rfl | rfl <;> kernel_rfl
theorem deed_ok {g y x z : Int} (hg : Gr g) (h : Steady g y x z) : k_Deed___init__ [.int g, .int 2, .lst [.lst [.int 0, .int y], .lst [.int x, .int z]]] = some (D g y x z) := by
  have b : p_is_between [.int 2, .int 1, .int 3] = some (.bl true) := by kernel_rfl
  simp [k_Deed___init__, pureMk, mf_Deed___init__, bodyM, m_Deed___init__, need_grade_ok hg, b, are_rows_ok h, fixed_ok, c_MOST_JOINTS, putI, viewO, D]
theorem lost_ok {g : Int} (hg : Gr g) : k_Deed___init__ [.int g, .int 2, .tup []] = some (DL g) := by
  rcases hg with rfl | rfl | rfl <;> kernel_rfl
theorem p_lost_ok {g : Int} (hg : Gr g) : p_lost_deed [.int g, .int 2] = some (DL g) := by
  rcases hg with rfl | rfl | rfl <;> kernel_rfl
theorem empty_deed_rows {g : Int} (hg : Gr g) : p_empty_rows [.int g, .int 2] = some (.lst [.lst [.int 0, .int 0], .lst [.int 0, .int g]]) := by
  rcases hg with rfl | rfl | rfl <;> kernel_rfl
theorem after_rows_ok {g y1 x1 z1 y2 x2 z2 : Int} (hg : Gr g) : p_after_rows [.int g, .int 2, .tpx [.tpx [.int 0, .int y1], .tpx [.int x1, .int z1]], .tpx [.tpx [.int 0, .int y2], .tpx [.int x2, .int z2]]] =
    some (.lst [.lst [.int (max 0 (y1 - g + x2)), .int (max y2 (y1 - g + z2))], .lst [.int (max x1 (z1 - g + x2)), .int (max (x1 + y2) (z1 - g + z2))]]) := by
  have c : p_cuts_of [.int 2] = some (.tup [.int 0, .int 1]) := by kernel_rfl
  have g2 : (-18446744073709551616 < g) ∧ g < 18446744073709551616 := by rcases hg with rfl | rfl | rfl <;> decide
  simp [p_after_rows, mf_after_rows, pureM, bodyM, m_after_rows, c, rngI, List.range, List.range.loop, zipI2, lstAt, g2, viewO]
theorem eq0 {a : Int} : cmpI .eq (.int a) (.int 0) = some (a == 0) := by
  simp [cmpI, eqI, pd, SeqAt.shaped, PyData.canLay0, PyData.depth, PyData.eqv]
theorem made_ok {g y x z : Int} (hg : Gr g) (h : Steady g y x z) : p_made_deed [.int g, .int 2, .lst [.lst [.int 0, .int y], .lst [.int x, .int z]]] = some (D g y x z) := by
  simp [p_made_deed, mf_made_deed, pureM, bodyM, m_made_deed, eq0, deed_ok hg h]
  simp [D]
theorem made_lost {g y x z a : Int} (hg : Gr g) (h : a ≠ 0) : p_made_deed [.int g, .int 2, .lst [.lst [.int a, .int y], .lst [.int x, .int z]]] = some (DL g) := by
  simp [p_made_deed, mf_made_deed, pureM, bodyM, m_made_deed, eq0, h, lost_ok hg]
  simp [DL]
/-! ### a deed of two joints: lost, or its numbers -/
inductive Dd where
  | lost
  | of (y x z : Int)
deriving DecidableEq
def Dd.enc (g : Int) : Dd → IV
  | .lost => DL g
  | .of y x z => D g y x z
def Dd.ok (g : Int) : Dd → Prop
  | .lost => True
  | .of y x z => Steady g y x z
def put (g : Int) : Dd → Dd → Dd
  | .of y1 x1 z1, .of y2 x2 z2 => if y1 + x2 ≤ g then .of (max y2 (y1 - g + z2)) (max x1 (z1 - g + x2)) (max (x1 + y2) (z1 - g + z2)) else .lost
  | _, _ => .lost
theorem put_steady {g : Int} {a b : Dd} (ha : a.ok g) (hb : b.ok g) : (put g a b).ok g := by
  cases a with
  | lost => trivial
  | of y1 x1 z1 =>
    cases b with
    | lost => trivial
    | of y2 x2 z2 =>
      simp only [put]
      split
      · obtain ⟨a1, a2, a3, a4, a5, a6, a7, a8⟩ := ha
        obtain ⟨b1, b2, b3, b4, b5, b6, b7, b8⟩ := hb
        exact ⟨by omega, by omega, by omega, by omega, by omega, by omega, by omega, by omega⟩
      · trivial
theorem ne_rows {y x z : Int} : cmpI .eq (.tup [.tpx [.int 0, .int y], .tpx [.int x, .int z]]) (.tup []) = some false := by
  simp [cmpI, eqI, pd, pds, SeqAt.shaped, PyData.canLay0, PyData.canLayAll0, PyData.depth, PyData.depthAll, PyData.eqv, PyData.eqvAll]
theorem eq_rows : cmpI .eq (.tup []) (.tup []) = some true := by kernel_rfl
theorem put_ok {g : Int} {a b : Dd} (hg : Gr g) (ha : a.ok g) (hb : b.ok g) : p_put_after [a.enc g, b.enc g] = some ((put g a b).enc g) := by
  cases a with
  | lost => simp [p_put_after, mf_put_after, pureM, bodyM, m_put_after, Dd.enc, DL, eq_rows, p_lost_ok hg, put]
  | of y1 x1 z1 =>
    cases b with
    | lost => simp [p_put_after, mf_put_after, pureM, bodyM, m_put_after, Dd.enc, DL, D, eq_rows, ne_rows, p_lost_ok hg, put]
    | of y2 x2 z2 =>
      have st := put_steady ha hb
      simp only [put] at st
      by_cases hl : y1 + x2 ≤ g
      · rw [if_pos hl] at st
        have m0 : max 0 (y1 - g + x2) = 0 := by omega
        have md := made_ok hg st
        simp [p_put_after, mf_put_after, pureM, bodyM, m_put_after, Dd.enc, D, ne_rows, after_rows_ok hg, m0, put, hl, md]
      · have m0 : max 0 (y1 - g + x2) ≠ 0 := by omega
        have md := made_lost (y := max y2 (y1 - g + z2)) (x := max x1 (z1 - g + x2)) (z := max (x1 + y2) (z1 - g + z2)) hg m0
        simp [p_put_after, mf_put_after, pureM, bodyM, m_put_after, Dd.enc, D, DL, ne_rows, after_rows_ok hg, put, hl, md]
theorem empty_ok {g : Int} (hg : Gr g) : k_Deed___init__ [.int g, .int 2, .lst [.lst [.int 0, .int 0], .lst [.int 0, .int g]]] = some ((Dd.of 0 0 g).enc g) := by
  refine deed_ok hg ?_
  rcases hg with rfl | rfl | rfl <;> exact ⟨by decide, by decide, by decide, by decide, by decide, by decide, by decide, by decide⟩
end L22

/-! P22b: kinds and kits. -/
namespace L22
open PySem Iv L2
/-- a kind -/
def kV (n : Str) (ps low high : List IV) (ropes : List IV) : IV := .ins 0 [0, 1, 2, 3, 4] [.str n, .tpx ps, .tpx low, .tpx high, .tpx ropes]
def sA0 : IV := .str "a0"
def sA1 : IV := .str "a1"
def sB0 : IV := .str "b0"
def sB1 : IV := .str "b1"
@[simp] theorem nr_sA0 : noRef sA0 = true := rfl
@[simp] theorem nr_sA1 : noRef sA1 = true := rfl
@[simp] theorem nr_sB0 : noRef sB0 = true := rfl
@[simp] theorem nr_sB1 : noRef sB1 = true := rfl
def rp (a b : IV) : IV := .tup [a, b]
/-- ropes of pieces -/
theorem are_ropes_ok {ps ropes : List IV} (h : ∀ x ∈ ropes, p_is_rope [x, .tpx ps] = some (.bl true)) (hl : ropes.length ≤ 40) (hn : noRefs ropes = true) (hp : noRefs ps = true) : p_are_ropes [.tpx ropes, .tpx ps] = some (.bl true) := by
  have l : p_is_listed [.tpx ropes] = some (.bl true) := by
    simp [p_is_listed, mf_is_listed, pureM, bodyM, m_is_listed, tgI, kt_list_tuple, ktT]
  have nr : ∀ x ∈ ropes, noRef x = true := by
    intro x hx
    clear h hl l
    induction ropes with
    | nil => cases hx
    | cons a r ih =>
      simp only [e_nrCons, Bool.and_eq_true] at hn
      rcases List.mem_cons.mp hx with rfl | hx
      · exact hn.1
      · exact ih hn.2 hx
  have q := lc_map (g := gN 2) (c := mYes) (e := mCallP 2 p_is_rope [] (mCons (mVar 2) (mCons (mVar 1) (mNil)))) (env := [some (.tpx ropes), some (.tpx ps), none]) (h := []) (f := fun _ => .bl true) (xs := ropes)
    fun x hx => ⟨_, rfl, rfl, by simp [h x hx, nr x hx, hp]⟩
  have bs : ∀ l : List IV, blsOf (l.map fun _ => IV.bl true) = some (l.map fun _ => true) := fun l => by
    induction l with
    | nil => rfl
    | cons a l ih => simp [ih]
  have hz : ropes.length ≤ 16777216 := by omega
  have c : cmpI .le (.int ropes.length) (view [] c_MOST_ROPES) = some true := by
    show some (decide ((ropes.length : Int) ≤ 40)) = some true
    rw [decide_eq_true (by omega)]
  simp [p_are_ropes, mf_are_ropes, pureM, bodyM, m_are_ropes, l, hn, c, hz, q, bs]
/-- a kind's names are right, whatever its ropes -/
structure KindOk (n : Str) (ps low high : List IV) : Prop where
  nm : p_is_name [.str n] = some (.bl true)
  pc : p_are_names [.tpx ps, .int 1, .int 8] = some (.bl true)
  lo : p_are_joints [.tpx low, .tpx ps, .int 1, .int 3] = some (.bl true)
  hi : p_are_joints [.tpx high, .tpx ps, .int low.length, .int low.length] = some (.bl true)
  r1 : noRefs ps = true
  r2 : noRefs low = true
  r3 : noRefs high = true
  l1 : low.length ≤ 16777216
theorem tup_map {ropes : List IV} (h : ∀ x ∈ ropes, ∃ a b, x = rp a b) (env : Iv.Env) (hl : env.length = 7) (h0 : IH) : lcLoop (gN 6) mYes (mBf bTupleX (mCons (mVar 6) mNil)) env ropes h0 = .ok ropes h0 := by
  have q := lc_map (g := gN 6) (c := mYes) (e := mBf bTupleX (mCons (mVar 6) mNil)) (env := env) (h := h0) (f := id) (xs := ropes) fun x hx => by
    obtain ⟨a, b, rfl⟩ := h x hx
    refine ⟨_, rfl, rfl, ?_⟩
    match env, hl with
    | [_, _, _, _, _, _, _], _ => simp [rp]
  rw [q, List.map_id]
theorem kind_ok {n : Str} {ps low high ropes : List IV} (k : KindOk n ps low high) (h : ∀ x ∈ ropes, p_is_rope [x, .tpx ps] = some (.bl true)) (h2 : ∀ x ∈ ropes, ∃ a b, x = rp a b) (hl : ropes.length ≤ 40) (hn : noRefs ropes = true) :
    k_Kind___init__ [.str n, .tpx ps, .tpx low, .tpx high, .tpx ropes] = some (kV n ps low high ropes) := by
  have t := tup_map h2
  have hz : ropes.length ≤ 16777216 := by omega
  have m : c_MOST_PIECES = .int 8 := rfl
  have m2 : c_MOST_JOINTS = .int 3 := rfl
  have ro := are_ropes_ok h hl hn k.r1
  simp [k_Kind___init__, pureMk, mf_Kind___init__, bodyM, m_Kind___init__, k.nm, k.pc, k.lo, k.hi, k.r1, k.r2, k.r3, hn, ro, hz, m, m2, putI, viewO, kV, t]
theorem strI (s : Str) : IV.str s = IV.str s := rfl
theorem ok_rails : KindOk "rails" [sA0, sA1, sB0, sB1] [sA0, sA1] [sB0, sB1] := by
  refine ⟨?_, ?_, ?_, ?_, ?_, ?_, ?_, ?_⟩ <;> first | kernel_rfl | decide
theorem ok_low : KindOk "low" [sA0, sA1] [sA0, sA1] [sA0, sA1] := by
  refine ⟨?_, ?_, ?_, ?_, ?_, ?_, ?_, ?_⟩ <;> first | kernel_rfl | decide
theorem ok_high : KindOk "high" [sA0, sA1] [sA0, sA1] [sA0, sA1] := by
  refine ⟨?_, ?_, ?_, ?_, ?_, ?_, ?_, ?_⟩ <;> first | kernel_rfl | decide
theorem ok_cross : KindOk "cross" [sA0, sA1] [sA0, sA1] [sA1, sA0] := by
  refine ⟨?_, ?_, ?_, ?_, ?_, ?_, ?_, ?_⟩ <;> first | kernel_rfl | decide
theorem rope_00 : p_is_rope [rp sA0 sB0, .tpx [sA0, sA1, sB0, sB1]] = some (.bl true) := by kernel_rfl
theorem rope_11 : p_is_rope [rp sA1 sB1, .tpx [sA0, sA1, sB0, sB1]] = some (.bl true) := by kernel_rfl
theorem rope_01 : p_is_rope [rp sA0 sA1, .tpx [sA0, sA1]] = some (.bl true) := by kernel_rfl
/-- the rails' ropes, a string's -/
def rsR (f l : Nat) : List IV := List.replicate f (rp sA0 sB0) ++ List.replicate l (rp sA1 sB1)
def rsS (k : Nat) : List IV := List.replicate k (rp sA0 sA1)
theorem nr_rep {x : IV} (h : noRef x = true) : ∀ k : Nat, noRefs (List.replicate k x) = true
  | 0 => rfl
  | k + 1 => by simp [List.replicate_succ, h, nr_rep h k]
theorem nr_rsR {f l : Nat} : noRefs (rsR f l) = true := by simp [rsR, nr_rep, rp, sA0, sA1, sB0, sB1]
theorem nr_rsS {k : Nat} : noRefs (rsS k) = true := nr_rep rfl k
def railsV (f l : Nat) : IV := kV "rails" [sA0, sA1, sB0, sB1] [sA0, sA1] [sB0, sB1] (rsR f l)
def lowV (k : Nat) : IV := kV "low" [sA0, sA1] [sA0, sA1] [sA0, sA1] (rsS k)
def highV (k : Nat) : IV := kV "high" [sA0, sA1] [sA0, sA1] [sA0, sA1] (rsS k)
def crossV : IV := kV "cross" [sA0, sA1] [sA0, sA1] [sA1, sA0] []
theorem rails_ok {f l : Nat} (h : f + l ≤ 40) : k_Kind___init__ [.str "rails", .tpx [sA0, sA1, sB0, sB1], .tpx [sA0, sA1], .tpx [sB0, sB1], .tpx (rsR f l)] = some (railsV f l) := by
  refine kind_ok ok_rails (fun x hx => ?_) (fun x hx => ?_) (by simp [rsR]; omega) nr_rsR
  · rcases List.mem_append.mp hx with hx | hx
    · rw [List.eq_of_mem_replicate hx]; exact rope_00
    · rw [List.eq_of_mem_replicate hx]; exact rope_11
  · rcases List.mem_append.mp hx with hx | hx
    · exact ⟨_, _, List.eq_of_mem_replicate hx⟩
    · exact ⟨_, _, List.eq_of_mem_replicate hx⟩
theorem low_ok {k : Nat} (h : k ≤ 40) : k_Kind___init__ [.str "low", .tpx [sA0, sA1], .tpx [sA0, sA1], .tpx [sA0, sA1], .tpx (rsS k)] = some (lowV k) :=
  kind_ok ok_low (fun x hx => by rw [List.eq_of_mem_replicate hx]; exact rope_01) (fun x hx => ⟨_, _, List.eq_of_mem_replicate hx⟩) (by simpa [rsS] using h) nr_rsS
theorem high_ok {k : Nat} (h : k ≤ 40) : k_Kind___init__ [.str "high", .tpx [sA0, sA1], .tpx [sA0, sA1], .tpx [sA0, sA1], .tpx (rsS k)] = some (highV k) :=
  kind_ok ok_high (fun x hx => by rw [List.eq_of_mem_replicate hx]; exact rope_01) (fun x hx => ⟨_, _, List.eq_of_mem_replicate hx⟩) (by simpa [rsS] using h) nr_rsS
theorem cross_ok : k_Kind___init__ [.str "cross", .tpx [sA0, sA1], .tpx [sA0, sA1], .tpx [sA1, sA0], .tpx []] = some crossV :=
  kind_ok ok_cross (fun x hx => by cases hx) (fun x hx => by cases hx) (by decide) rfl
end L22

/-! P22c: the law's own plain kinds; the kit. -/
namespace L22
open PySem Iv L2
theorem repI_one {k : Nat} {x : IV} : repI k [x] = List.replicate k x := by
  induction k with
  | zero => rfl
  | succ k ih => rw [List.replicate_succ, ← ih]; rfl
/-- a plain kind of the law's -/
def plS (n : Str) (k : Nat) : IV := .tup [.str n, .tpx [sA0, sA1], .tpx [sA0, sA1], .tpx [sA0, sA1], .tpx (rsS k)]
def plR (f l : Nat) : IV := .tup [.str "rails", .tpx [sA0, sA1, sB0, sB1], .tpx [sA0, sA1], .tpx [sB0, sB1], .tpx (rsR f l)]
def plX : IV := .tup [.str "cross", .tpx [sA0, sA1], .tpx [sA0, sA1], .tpx [sA1, sA0], .tpx []]
def v01 : IV := .tup [.int 0, .int 1]
theorem through_low {k : Nat} (h : k < 8) : p__law_ce_through [.str "low", .lst [.int 0, .int 1], .lst (List.replicate k v01)] = some (plS "low" k) := by
  match k, h with
  | 0, _ => kernel_rfl
  | 1, _ => kernel_rfl
  | 2, _ => kernel_rfl
  | 3, _ => kernel_rfl
  | 4, _ => kernel_rfl
  | 5, _ => kernel_rfl
  | 6, _ => kernel_rfl
  | 7, _ => kernel_rfl
  | k + 8, h => omega
theorem through_high {k : Nat} (h : k < 8) : p__law_ce_through [.str "high", .lst [.int 0, .int 1], .lst (List.replicate k v01)] = some (plS "high" k) := by
  match k, h with
  | 0, _ => kernel_rfl
  | 1, _ => kernel_rfl
  | 2, _ => kernel_rfl
  | 3, _ => kernel_rfl
  | 4, _ => kernel_rfl
  | 5, _ => kernel_rfl
  | 6, _ => kernel_rfl
  | 7, _ => kernel_rfl
  | k + 8, h => omega
theorem through_cross : p__law_ce_through [.str "cross", .lst [.int 1, .int 0], .lst []] = some plX := by kernel_rfl
theorem s0_ok : bStr [.int 0] [] = .ok (.str "0") [] := by kernel_rfl
theorem s1_ok : bStr [.int 1] [] = .ok (.str "1") [] := by kernel_rfl
theorem a0_ok : binI .add (.str "a") (.str "0") = some sA0 := by kernel_rfl
theorem a1_ok : binI .add (.str "a") (.str "1") = some sA1 := by kernel_rfl
theorem b0_ok : binI .add (.str "b") (.str "0") = some sB0 := by kernel_rfl
theorem b1_ok : binI .add (.str "b") (.str "1") = some sB1 := by kernel_rfl
theorem mulL {k : Nat} {x : IV} (hk : k ≤ 1000) : binI .mul (.lst [x]) (.int k) = some (.lst (List.replicate k x)) := by
  have c : -(2 ^ 63) ≤ (k : Int) ∧ (k : Int) < 2 ^ 63 ∧ [x].length * (k : Int).toNat ≤ sizeLine := by
    refine ⟨by omega, by omega, ?_⟩
    rw [Int.toNat_natCast, List.length_singleton, sz_eq]
    omega
  unfold binI
  show (if _ then _ else _) = _
  rw [if_pos c, repI_one, Int.toNat_natCast]
theorem rails_all : allB 9 (fun f => allB 9 fun l => isV (p__law_ce_rails [.str "rails", .lst [.int f, .int l]]) (plR f l)) = true := by kernel_rfl
theorem rails_plain {f l : Nat} (hf : f < 9) (hl : l < 9) : p__law_ce_rails [.str "rails", .lst [.int f, .int l]] = some (plR f l) := isV_eq (allB_at (allB_at rails_all hf) hl)
def kitV (d g : Int) (ks : List IV) (ns : List IV) : IV := .ins 1 [5, 6, 7, 8, 9] [.int d, .int 2, .tpx ks, .int g, .tpx ns]
def sRails : IV := .str "rails"
def sLow : IV := .str "low"
def sHigh : IV := .str "high"
def sCross : IV := .str "cross"
def kitK (d g : Int) (f l b a : Nat) : IV := kitV d g [railsV f l, lowV b, highV a, crossV] [sRails, sLow, sHigh, sCross]
/-- dimension and grade -/
def DG (d g : Int) : Prop := (d = 1 ∧ g = 1) ∨ (d = 2 ∧ g = 3) ∨ (d = 3 ∧ g = 6)
theorem DG.gr {d g : Int} (h : DG d g) : Gr g := by
  rcases h with ⟨_, rfl⟩ | ⟨_, rfl⟩ | ⟨_, rfl⟩
  · exact .inl rfl
  · exact .inr (.inl rfl)
  · exact .inr (.inr rfl)
theorem nr_kV {n : Str} {ps lo hi rs : List IV} (h1 : noRefs ps = true) (h2 : noRefs lo = true) (h3 : noRefs hi = true) (h4 : noRefs rs = true) : noRef (kV n ps lo hi rs) = true := by simp [kV, h1, h2, h3, h4]
theorem nr_rails {f l : Nat} : noRef (railsV f l) = true := nr_kV rfl rfl rfl nr_rsR
theorem nr_low {k : Nat} : noRef (lowV k) = true := nr_kV rfl rfl rfl nr_rsS
theorem nr_high {k : Nat} : noRef (highV k) = true := nr_kV rfl rfl rfl nr_rsS
theorem nr_cross : noRef crossV = true := rfl
theorem are_kinds_ok {f l b a : Nat} : p_are_kinds [.lst [railsV f l, lowV b, highV a, crossV], .int 2] = some (.bl true) := by
  have u : p_are_unlike [.lst [.str "rails", .str "low", .str "high", .str "cross"]] = some (.bl true) := by kernel_rfl
  have lst : p_is_listed [.lst [railsV f l, lowV b, highV a, crossV]] = some (.bl true) := by
    simp [p_is_listed, mf_is_listed, pureM, bodyM, m_is_listed, tgI, kt_list_tuple, ktT]
  have e2 : cmpI .eq (.int 2) (.int 2) = some true := by kernel_rfl
  have m : c_MOST_KINDS = .int 8 := rfl
  have kk : kt_Kind (.cl 0) = some true := rfl
  have nr := nr_rsR (f := f) (l := l)
  have nr2 := nr_rsS (k := b)
  have nr3 := nr_rsS (k := a)
  simp [p_are_kinds, mf_are_kinds, pureM, bodyM, m_are_kinds, railsV, lowV, highV, crossV, kV, e2, u, nr, nr2, nr3, m, kk] at lst ⊢
  simp [lst, u, nr, nr2, nr3, e2, kk, m]
theorem kit_ok {d g : Int} {f l b a : Nat} (h : DG d g) : k_Kit___init__ [.int d, .int 2, .lst [railsV f l, lowV b, highV a, crossV]] = some (kitK d g f l b a) := by
  have b1 : p_is_between [.int d, .int 1, .int 3] = some (.bl true) := by rcases h with ⟨rfl, _⟩ | ⟨rfl, _⟩ | ⟨rfl, _⟩ <;> kernel_rfl
  have b2 : p_is_between [.int 2, .int 1, .int 3] = some (.bl true) := by kernel_rfl
  have m2 : c_MOST_JOINTS = .int 3 := rfl
  have m3 : c_GRADES = .tup [.int 0, .int 1, .int 3, .int 6] := rfl
  have ak := are_kinds_ok (f := f) (l := l) (b := b) (a := a)
  have nr := nr_rsR (f := f) (l := l)
  have nr2 := nr_rsS (k := b)
  have nr3 := nr_rsS (k := a)
  have gx : atI [IV.int 0, IV.int 1, IV.int 3, IV.int 6] d = some (.int g) := by rcases h with ⟨rfl, rfl⟩ | ⟨rfl, rfl⟩ | ⟨rfl, rfl⟩ <;> kernel_rfl
  simp [railsV, lowV, highV, crossV, kV] at ak
  simp [k_Kit___init__, pureMk, mf_Kit___init__, bodyM, m_Kit___init__, railsV, lowV, highV, crossV, kV, b1, b2, m2, m3, ak, nr, nr2, nr3, putI, viewO, gx, kitK, kitV]
  simp [sRails, sLow, sHigh, sCross]
/-- the law's own plain kit -/
def plain (d : Int) (f l b a : Nat) : IV := .tup [.int d, .int 2, .tup [plR f l, plS "low" b, plS "high" a, plX]]
theorem made_kit {d g : Int} {f l b a : Nat} (h : DG d g) (hf : f < 9) (hl : l < 9) (hb : b < 8) (ha : a < 8) : p__law_ce_made [plain d f l b a] = some (kitK d g f l b a) := by
  have nr := nr_rsR (f := f) (l := l)
  have nr2 := nr_rsS (k := b)
  have nr3 := nr_rsS (k := a)
  have k1 := rails_ok (show f + l ≤ 40 by omega)
  have k2 := low_ok (show b ≤ 40 by omega)
  have k3 := high_ok (show a ≤ 40 by omega)
  have k4 := cross_ok
  have ko := kit_ok (f := f) (l := l) (b := b) (a := a) h
  simp [p__law_ce_made, mf__law_ce_made, pureM, bodyM, m__law_ce_made, plain, plR, plS, plX, nr, nr2, nr3, k1, k2, k3, k4, nr_rails, nr_low, nr_high, nr_cross, ko]
  simp [kitK, kitV, nr_rails, nr_low, nr_high, nr_cross, sRails, sLow, sHigh, sCross]
end L22

/-! P22d: words. -/
namespace L22
open PySem Iv L2
/-- the names -/
theorem q00 : cmpI .eq (.str "rails") (.str "rails") = some true := by kernel_rfl
theorem q01 : cmpI .eq (.str "rails") (.str "low") = some false := by kernel_rfl
theorem q02 : cmpI .eq (.str "rails") (.str "high") = some false := by kernel_rfl
theorem q03 : cmpI .eq (.str "rails") (.str "cross") = some false := by kernel_rfl
theorem q10 : cmpI .eq (.str "low") (.str "rails") = some false := by kernel_rfl
theorem q11 : cmpI .eq (.str "low") (.str "low") = some true := by kernel_rfl
theorem q12 : cmpI .eq (.str "low") (.str "high") = some false := by kernel_rfl
theorem q13 : cmpI .eq (.str "low") (.str "cross") = some false := by kernel_rfl
theorem q20 : cmpI .eq (.str "high") (.str "rails") = some false := by kernel_rfl
theorem q21 : cmpI .eq (.str "high") (.str "low") = some false := by kernel_rfl
theorem q22 : cmpI .eq (.str "high") (.str "high") = some true := by kernel_rfl
theorem q23 : cmpI .eq (.str "high") (.str "cross") = some false := by kernel_rfl
theorem q30 : cmpI .eq (.str "cross") (.str "rails") = some false := by kernel_rfl
theorem q31 : cmpI .eq (.str "cross") (.str "low") = some false := by kernel_rfl
theorem q32 : cmpI .eq (.str "cross") (.str "high") = some false := by kernel_rfl
theorem q33 : cmpI .eq (.str "cross") (.str "cross") = some true := by kernel_rfl
theorem eqNil_cons {x : IV} {xs : List IV} : eqNilI (.lst (x :: xs)) (.lst []) = some false := rfl
theorem kts {s : String} : kt_str (.ty "str") = some true := by decide
section
variable {d g : Int} {f l b a : Nat}
theorem kind_rails : p_Kit_kind [kitK d g f l b a, .str "rails"] = some (railsV f l) := by
  have nr := nr_rsR (f := f) (l := l)
  simp [p_Kit_kind, mf_Kit_kind, pureM, bodyM, m_Kit_kind, kitK, kitV, railsV, lowV, highV, crossV, kV, q00, q10, q20, q30, kt_str, ktT, eqNil_cons, nr]
theorem kind_low : p_Kit_kind [kitK d g f l b a, .str "low"] = some (lowV b) := by
  have nr := nr_rsS (k := b)
  simp [p_Kit_kind, mf_Kit_kind, pureM, bodyM, m_Kit_kind, kitK, kitV, railsV, lowV, highV, crossV, kV, q01, q11, q21, q31, kt_str, ktT, eqNil_cons, nr]
theorem kind_high : p_Kit_kind [kitK d g f l b a, .str "high"] = some (highV a) := by
  have nr := nr_rsS (k := a)
  simp [p_Kit_kind, mf_Kit_kind, pureM, bodyM, m_Kit_kind, kitK, kitV, railsV, lowV, highV, crossV, kV, q02, q12, q22, q32, kt_str, ktT, eqNil_cons, nr]
theorem kind_cross : p_Kit_kind [kitK d g f l b a, .str "cross"] = some crossV := by
  simp [p_Kit_kind, mf_Kit_kind, pureM, bodyM, m_Kit_kind, kitK, kitV, railsV, lowV, highV, crossV, kV, q03, q13, q23, q33, kt_str, ktT, eqNil_cons]
/-- what a kind does as a storey -/
structure KStep (k : IV) where
  nr : noRef k = true
  row : Int → Int → Int → List Int
  hi : Int → Int → Int → Int × Int
  prs : List (Nat × Nat)
  sto : ∀ x y m, p_storey_on [k, .tup [.int x, .int y], .int m] = some (.tpx ((row x y m).map .int))
  stx : ∀ x y m, p_storey_on [k, .tpx [.int x, .int y], .int m] = some (.tpx ((row x y m).map .int))
  hig : ∀ x y m, p_high_of [k, .tpx ((row x y m).map .int)] = some (.tpx [.int (hi x y m).1, .int (hi x y m).2])
  par : p_pairs_in [k] = some (.lst (prs.map fun p => .tup [.int p.1, .int p.2]))
  len : prs.length ≤ 40
  inr : ∀ p ∈ prs, ∀ x y m, p.1 < (row x y m).length ∧ p.2 < (row x y m).length
  ne : ∀ x y m, row x y m ≠ []
  le : ∀ x y m, (row x y m).length ≤ 10
def st_rails (hf : f < 9) (hl : l < 9) : KStep (railsV f l) where
  nr := nr_rails
  row := fun x y m => [x, y, m, m + 1]
  hi := fun x y m => (m, m + 1)
  prs := List.replicate f (0, 2) ++ List.replicate l (1, 3)
  sto := fun x y m => by kernel_rfl
  stx := fun x y m => by kernel_rfl
  hig := fun x y m => by kernel_rfl
  par := by
    have q : allB 9 (fun f => allB 9 fun l => isV (p_pairs_in [railsV f l]) (.lst ((List.replicate f (0, 2) ++ List.replicate l (1, 3)).map fun p : Nat × Nat => .tup [.int p.1, .int p.2]))) = true := by kernel_rfl
    exact isV_eq (allB_at (allB_at q hf) hl)
  len := by simp; omega
  inr := fun p hp x y m => by
    rcases List.mem_append.mp hp with hp | hp
    · rw [List.eq_of_mem_replicate hp]; simp
    · rw [List.eq_of_mem_replicate hp]; simp
  ne := fun x y m => by simp
  le := fun x y m => by simp
def st_low (hb : b < 8) : KStep (lowV b) where
  nr := nr_low
  row := fun x y m => [x, y]
  hi := fun x y m => (x, y)
  prs := List.replicate b (0, 1)
  sto := fun x y m => by kernel_rfl
  stx := fun x y m => by kernel_rfl
  hig := fun x y m => by kernel_rfl
  par := by
    have q : allB 8 (fun b => isV (p_pairs_in [lowV b]) (.lst ((List.replicate b (0, 1)).map fun p : Nat × Nat => .tup [.int p.1, .int p.2]))) = true := by kernel_rfl
    exact isV_eq (allB_at q hb)
  len := by simp; omega
  inr := fun p hp x y m => by rw [List.eq_of_mem_replicate hp]; simp
  ne := fun x y m => by simp
  le := fun x y m => by simp
def st_high (hb : b < 8) : KStep (highV b) where
  nr := nr_high
  row := fun x y m => [x, y]
  hi := fun x y m => (x, y)
  prs := List.replicate b (0, 1)
  sto := fun x y m => by kernel_rfl
  stx := fun x y m => by kernel_rfl
  hig := fun x y m => by kernel_rfl
  par := by
    have q : allB 8 (fun b => isV (p_pairs_in [highV b]) (.lst ((List.replicate b (0, 1)).map fun p : Nat × Nat => .tup [.int p.1, .int p.2]))) = true := by kernel_rfl
    exact isV_eq (allB_at q hb)
  len := by simp; omega
  inr := fun p hp x y m => by rw [List.eq_of_mem_replicate hp]; simp
  ne := fun x y m => by simp
  le := fun x y m => by simp
def st_cross : KStep crossV where
  nr := nr_cross
  row := fun x y m => [x, y]
  hi := fun x y m => (y, x)
  prs := []
  sto := fun x y m => by kernel_rfl
  stx := fun x y m => by kernel_rfl
  hig := fun x y m => by kernel_rfl
  par := by kernel_rfl
  len := by simp
  inr := fun p hp x y m => by cases hp
  ne := fun x y m => by simp
  le := fun x y m => by simp
end
/-- a name of a kit's kind -/
structure NameOk (kit : IV) (names4 : List IV) (x : IV) where
  s : Str
  sx : x = .str s
  mem : cmpI .isin x (.tup names4) = some true
  k : IV
  kd : p_Kit_kind [kit, x] = some k
  stp : KStep k
/-- the last step of a kind's -/
theorem pairs_row {rw : List Int} {prs : List (Nat × Nat)} (h : ∀ p ∈ prs, p.1 < rw.length ∧ p.2 < rw.length) {env : Iv.Env} {e1 e2 e3 e4 e5 e6 e7 e8 e9 e0 : Option IV} {h0 : IH} :
    ∃ rs, lcLoop (gSeq fun xs env => if xs.length = 2 then (gCons' (gN 7) (gCons' (gN 8) (gNil'))) xs env else none) mYes (mTup (mCons (mIx (mVar 6) (mVar 7)) (mCons (mIx (mVar 6) (mVar 8)) (mNil)))) [e0, e1, e2, e3, e4, e5, some (.tpx (rw.map .int)), none, none, e9] (prs.map fun p => .tup [.int p.1, .int p.2]) h0 = .ok rs h0 ∧ rs.length = prs.length ∧ noRefs rs = true := by
  induction prs with
  | nil => exact ⟨[], rfl, rfl, rfl⟩
  | cons p prs ih =>
    obtain ⟨rs, e, l, nr⟩ := ih fun p hp => h p (List.mem_cons_of_mem _ hp)
    obtain ⟨h1, h2⟩ := h p List.mem_cons_self
    refine ⟨.tup [.int (rw[p.1]), .int (rw[p.2])] :: rs, ?_, by simp [l], by simp [nr]⟩
    rw [List.map_cons]
    refine lc_cons (env1 := [e0, e1, e2, e3, e4, e5, some (.tpx (rw.map .int)), some (.int p.1), some (.int p.2), e9]) (h1 := h0) (by simp) rfl ?_ e
    simp [Iv.atI_nat, h1, h2]
theorem ints_map (l : List Int) : intsOf (l.map .int) = some l := by
  induction l with
  | nil => rfl
  | cons a l ih => simp [ih]
theorem plus1 {rw : List Int} {e0 e1 e2 e3 e4 e5 e6 e7 e8 : Option IV} {h0 : IH} : lcLoop (gN 9) mYes (mBin .add (mVar 9) (mC (.int 1))) [e0, e1, e2, e3, e4, e5, e6, e7, e8, none] (rw.map .int) h0 = .ok ((rw.map (· + 1)).map .int) h0 := by
  have q := lc_map (g := gN 9) (c := mYes) (e := mBin .add (mVar 9) (mC (.int 1))) (env := [e0, e1, e2, e3, e4, e5, e6, e7, e8, none]) (h := h0) (f := fun x => match x with | .int i => .int (i + 1) | x => x) (xs := rw.map .int) fun x hx => by
    obtain ⟨i, _, rfl⟩ := List.mem_map.mp hx
    exact ⟨_, rfl, rfl, by simp⟩
  rw [q]
  congr 1
  simp
/-- what a word's loop keeps -/
def WInv (kit : IV) (names : List IV) (j : Nat) (env : Iv.Env) (h : IH) : Prop := ∃ x y m top rs e5 e6 e7 e8 e9, env = [some (.ref 0), some kit, some (.lst names), some (.ref 1), some top, e5, e6, e7, e8, e9] ∧
  h = [some (.ins 2 [10, 9, 2, 11] [kit, .tpx names, .tup [.int 0, .int 1], .int m]), some (.lst rs)] ∧ (top = .tup [.int x, .int y] ∨ top = .tpx [.int x, .int y]) ∧ rs.length ≤ 40 * j ∧ noRefs rs = true
theorem word_turn {kit : IV} {ns : List Nat} {vs : List IV} (hk : kit = .ins 1 ns vs) (hkn : noRef kit = true) {names names4 : List IV} {j : Nat} {x : IV} {env : Iv.Env} {h : IH} (hj : j < 61) (N : NameOk kit names4 x) (I : WInv kit names j env h) :
    ∃ env1, gN 5 x env = some env1 ∧ ∃ env2 h2, r_Word___init___10 env1 h = .ok (.nx, env2) h2 ∧ WInv kit names (j + 1) env2 h2 := by
  obtain ⟨tx, ty, m, top, rs, e5, e6, e7, e8, e9, rfl, rfl, ht, hl, hr⟩ := I
  obtain ⟨s, rfl, mem, k, kd, S⟩ := N
  refine ⟨_, rfl, ?_⟩
  have st : p_storey_on [k, top, .int m] = some (.tpx ((S.row tx ty m).map .int)) := by
    rcases ht with rfl | rfl
    · exact S.sto tx ty m
    · exact S.stx tx ty m
  have nt : noRef top = true := by rcases ht with rfl | rfl <;> rfl
  have nk := S.nr
  have hg := S.hig tx ty m
  have hp := S.par
  generalize hrow : S.row tx ty m = row at st hg
  have inr : ∀ p ∈ S.prs, p.1 < row.length ∧ p.2 < row.length := fun p h => by rw [← hrow]; exact S.inr p h tx ty m
  have hle : row.length ≤ 10 := by rw [← hrow]; exact S.le tx ty m
  have hne := S.ne tx ty m
  rw [hrow] at hne
  have hpl := S.len
  generalize S.prs = prs at hp inr hpl
  subst hk
  have nri : ∀ l : List Int, noRefs (l.map IV.int) = true := fun l => by
    induction l with
    | nil => rfl
    | cons a l ih => simp [ih]
  have hkn' : noRefs vs = true := by simpa using hkn
  -- the row
  have s10 : ∀ h, m_Word___init___10 [some (.ref 0), some (.ins 1 ns vs), some (.lst names), some (.ref 1), some top, some (.str s), e6, e7, e8, e9] (some (.ins 2 [10, 9, 2, 11] [.ins 1 ns vs, .tpx names, .tup [.int 0, .int 1], .int m]) :: h) =
      .ok (.nx, [some (.ref 0), some (.ins 1 ns vs), some (.lst names), some (.ref 1), some top, some (.str s), some (.tpx (row.map .int)), e7, e8, e9]) (some (.ins 2 [10, 9, 2, 11] [.ins 1 ns vs, .tpx names, .tup [.int 0, .int 1], .int m]) :: h) := fun h => by
    simp [m_Word___init___10, kd, st, nt, nk, hkn', view, viewO, look]
  have s11 : ∀ rs, ∃ m', m_Word___init___11 [some (.ref 0), some (.ins 1 ns vs), some (.lst names), some (.ref 1), some top, some (.str s), some (.tpx (row.map .int)), e7, e8, e9] [some (.ins 2 [10, 9, 2, 11] [.ins 1 ns vs, .tpx names, .tup [.int 0, .int 1], .int m]), some (.lst rs)] =
      .ok (.nx, [some (.ref 0), some (.ins 1 ns vs), some (.lst names), some (.ref 1), some top, some (.str s), some (.tpx (row.map .int)), e7, e8, e9]) [some (.ins 2 [10, 9, 2, 11] [.ins 1 ns vs, .tpx names, .tup [.int 0, .int 1], .int m']), some (.lst rs)] := fun rs => by
    have hz : row.length ≤ 16777216 := by omega
    have c : binI .add (.lst [.int m]) (.lst ((row.map (· + 1)).map .int)) = some (.lst (.int m :: (row.map (· + 1)).map .int)) := by
      simp only [binI]
      rw [if_pos (by simp; omega)]
      rfl
    have im := ints_map (row.map (· + 1))
    simp only [List.map_map] at c im
    refine ⟨(row.map (· + 1)).foldl max m, ?_⟩
    have p1 := fun h0 => plus1 (rw := row) (e0 := some (.ref 0)) (e1 := some (.ins 1 ns vs)) (e2 := some (.lst names)) (e3 := some (.ref 1)) (e4 := some top) (e5 := some (.str s)) (e6 := some (.tpx (row.map .int))) (e7 := e7) (e8 := e8) (h0 := h0)
    simp only [List.map_map] at p1
    simp [m_Word___init___11, view, viewO, look, hz, p1, c, im, putI]
  have s12 : ∀ m', ∃ rs', m_Word___init___12 [some (.ref 0), some (.ins 1 ns vs), some (.lst names), some (.ref 1), some top, some (.str s), some (.tpx (row.map .int)), e7, e8, e9] [some (.ins 2 [10, 9, 2, 11] [.ins 1 ns vs, .tpx names, .tup [.int 0, .int 1], .int m']), some (.lst rs)] =
      .ok (.nx, [some (.ref 0), some (.ins 1 ns vs), some (.lst names), some (.ref 1), some top, some (.str s), some (.tpx (row.map .int)), e7, e8, e9]) [some (.ins 2 [10, 9, 2, 11] [.ins 1 ns vs, .tpx names, .tup [.int 0, .int 1], .int m']), some (.lst rs')] ∧ rs'.length ≤ 40 * (j + 1) ∧ noRefs rs' = true := fun m' => by
    obtain ⟨rs2, e, l2, n2⟩ := pairs_row inr (env := []) (e0 := some (.ref 0)) (e1 := some (.ins 1 ns vs)) (e2 := some (.lst names)) (e3 := some (.ref 1)) (e4 := some top) (e5 := some (.str s)) (e7 := none) (e8 := none) (e6 := none) (e9 := e9) (h0 := [some (.ins 2 [10, 9, 2, 11] [.ins 1 ns vs, .tpx names, .tup [.int 0, .int 1], .int m']), some (.lst rs)])
    refine ⟨rs ++ rs2, ?_, by simp; omega, by simp [hr, n2]⟩
    have z1 : prs.length ≤ 16777216 := by omega
    have z2 : rs.length + rs2.length ≤ 16777216 := by omega
    simp [m_Word___init___12, kd, nk, hkn', hp, lstAt, z1, e, z2]
  have s13 : ∀ h, m_Word___init___13 [some (.ref 0), some (.ins 1 ns vs), some (.lst names), some (.ref 1), some top, some (.str s), some (.tpx (row.map .int)), e7, e8, e9] h =
      .ok (.nx, [some (.ref 0), some (.ins 1 ns vs), some (.lst names), some (.ref 1), some (.tpx [.int (S.hi tx ty m).1, .int (S.hi tx ty m).2]), some (.str s), some (.tpx (row.map .int)), e7, e8, e9]) h := fun h => by
    simp [m_Word___init___13, kd, nk, hkn', hg, nri]
  obtain ⟨m', s11⟩ := s11 rs
  obtain ⟨rs', s12, l', n'⟩ := s12 m'
  refine ⟨[some (.ref 0), some (.ins 1 ns vs), some (.lst names), some (.ref 1), some (.tpx [.int (S.hi tx ty m).1, .int (S.hi tx ty m).2]), some (.str s), some (.tpx (row.map .int)), e7, e8, e9], [some (.ins 2 [10, 9, 2, 11] [.ins 1 ns vs, .tpx names, .tup [.int 0, .int 1], .int m']), some (.lst rs')], ?_, (S.hi tx ty m).1, (S.hi tx ty m).2, m', .tpx [.int (S.hi tx ty m).1, .int (S.hi tx ty m).2], rs', some (.str s), some (.tpx (row.map .int)), e7, e8, e9, rfl, rfl, .inr rfl, l', n'⟩
  rw [r_Word___init___10, List.set_cons_succ, List.set_cons_succ, List.set_cons_succ, List.set_cons_succ, List.set_cons_succ, List.set_cons_zero, mThen_nx (s10 _), r_Word___init___11, mThen_nx s11, r_Word___init___12, mThen_nx s12, s13]
end L22

/-! P22e: words made. -/
namespace L22
open PySem Iv L2
def IsWord (kit : IV) (names : List IV) (w : IV) : Prop := ∃ a b c e, w = .ins 2 [10, 9, 2, 11, 3, 4] [kit, .tpx names, a, b, c, e] ∧ noRef w = true
theorem kinds_of_ok {d g : Int} {ks names4 names : List IV} (hks : noRefs ks = true) (hn4 : noRefs names4 = true) (hl : names.length ≤ 60) (h : ∀ x ∈ names, ∃ s, x = .str s ∧ cmpI .isin x (.tup names4) = some true) :
    p_are_kinds_of [kitV d g ks names4, .lst names] = some (.bl true) := by
  have nrs : noRefs names = true := by
    clear hl
    induction names with
    | nil => rfl
    | cons a r ih =>
      obtain ⟨s, rfl, _⟩ := h a List.mem_cons_self
      simp [ih fun x hx => h x (List.mem_cons_of_mem _ hx)]
  have l : p_is_listed [.lst names] = some (.bl true) := by
    simp [p_is_listed, mf_is_listed, pureM, bodyM, m_is_listed, kt_list_tuple, ktT]
  have q := lc_map (g := gN 2) (c := mYes) (e := mAndV (mIsi kt_str (mVar 2)) (mB (mCmpB .isin (mVar 2) (mFld 9 (mVar 0))))) (env := [some (kitV d g ks names4), some (.lst names), none]) (h := []) (f := fun _ => .bl true) (xs := names)
    fun x hx => by
      obtain ⟨s, rfl, hs⟩ := h x hx
      exact ⟨_, rfl, rfl, by simp [kt_str, ktT, kitV, hs]⟩
  have bs : ∀ l : List IV, blsOf (l.map fun _ => IV.bl true) = some (l.map fun _ => true) := fun l => by
    induction l with
    | nil => rfl
    | cons a l ih => simp [ih]
  have hz : names.length ≤ 16777216 := by omega
  have c : cmpI .gt (.int names.length) (view [] c_MOST_LONG) = some false := by
    show some (decide ((60 : Int) < names.length)) = some false
    rw [decide_eq_false (by omega)]
  simp [p_are_kinds_of, mf_are_kinds_of, pureM, bodyM, m_are_kinds_of, l, nrs, c, hz, q, bs]
theorem word_ok {d g : Int} {ks names4 names : List IV} (hks : noRefs ks = true) (hn4 : noRefs names4 = true) (hl : names.length ≤ 60) (h : ∀ x ∈ names, Nonempty (NameOk (kitV d g ks names4) names4 x)) :
    ∃ w, k_Word___init__ [kitV d g ks names4, .lst names] = some w ∧ IsWord (kitV d g ks names4) names w := by
  have nrs : noRefs names = true := by
    clear hl
    induction names with
    | nil => rfl
    | cons a r ih =>
      obtain ⟨⟨s, rfl, _⟩⟩ := h a List.mem_cons_self
      simp [ih fun x hx => h x (List.mem_cons_of_mem _ hx)]
  have ko := kinds_of_ok (d := d) (g := g) hks hn4 hl fun x hx => by
    obtain ⟨N⟩ := h x hx
    exact ⟨N.s, N.sx, N.mem⟩
  have kn : noRef (kitV d g ks names4) = true := by simp [kitV, hks, hn4]
  have nk : p_need_kit [kitV d g ks names4, .str "kit"] = some (kitV d g ks names4) := by
    simp [p_need_kit, mf_need_kit, pureM, bodyM, m_need_kit, kitV, kt_Kit, ktT, hks, hn4]
  have fin : p_finest [.int 2] = some (.tup [.int 0, .int 1]) := by kernel_rfl
  generalize hkit : kitV d g ks names4 = kit at *
  have st : WInv kit names 0 [some (.ref 0), some kit, some (.lst names), some (.ref 1), some (.tup [.int 0, .int 1]), none, none, none, none, none]
      [some (.ins 2 [10, 9, 2, 11] [kit, .tpx names, .tup [.int 0, .int 1], .int 2]), some (.lst [])] :=
    ⟨0, 1, 2, .tup [.int 0, .int 1], [], none, none, none, none, none, rfl, rfl, .inl rfl, by simp, rfl⟩
  obtain ⟨env', h', e, x, y, m, top, rs, e5, e6, e7, e8, e9, rfl, rfl, ht, hlr, hr⟩ := for_runs (I := WInv kit names) (g := gN 5) (b := r_Word___init___10) (xs := names) st fun j x env h0 hx I => by
    obtain ⟨N⟩ := h x (List.mem_of_getElem? hx)
    have hj : j < names.length := lt_of_at hx
    exact word_turn hkit.symm kn (by omega) N I
  have nt : noRef top = true := by rcases ht with rfl | rfl <;> rfl
  have fld : look 6 [5, 6, 7, 8, 9] [IV.int d, .int 2, .tpx ks, .int g, .tpx names4] = some (.int 2) := by simp [look]
  refine ⟨.ins 2 [10, 9, 2, 11, 3, 4] [kit, .tpx names, .tup [.int 0, .int 1], .int m, top, .tpx rs], ?_, _, _, _, _, rfl, by simp [kn, nrs, nt, hr]⟩
  have pre : ∀ h0, mf_Word___init__ [.ref 0, kit, .lst names] h0 = (r_Word___init___1 [some (.ref 0), some kit, some (.lst names), none, none, none, none, none, none, none] h0).bind fun r h1 => match r with
    | (.rt v, _) => .ok v h1
    | (.nx, _) => .ok .non h1
    | _ => .bad := fun h0 => rfl
  have hz : names.length ≤ 16777216 := by omega
  have m9 : m_Word___init___9 [some (.ref 0), some kit, some (.lst names), some (.ref 1), some (.tup [.int 0, .int 1]), none, none, none, none, none] [some (.ins 2 [10, 9, 2, 11] [kit, .tpx names, .tup [.int 0, .int 1], .int 2]), some (.lst [])] =
      .ok (.nx, [some (.ref 0), some kit, some (.lst names), some (.ref 1), some top, e5, e6, e7, e8, e9]) [some (.ins 2 [10, 9, 2, 11] [kit, .tpx names, .tup [.int 0, .int 1], .int m]), some (.lst rs)] := by
    rw [← e]
    simp [m_Word___init___9, view, viewO, look]
  have all : r_Word___init___1 [some (.ref 0), some kit, some (.lst names), none, none, none, none, none, none, none] [some (.ins 2 [] [])] =
      .ok (.nx, [some (.ref 0), some kit, some (.lst names), some (.ref 1), some top, e5, e6, e7, e8, e9]) [some (.ins 2 [10, 9, 2, 11, 3, 4] [kit, .tpx names, .tup [.int 0, .int 1], .int m, top, .tpx rs]), some (.lst rs)] := by
    have s1 : m_Word___init___1 [some (.ref 0), some kit, some (.lst names), none, none, none, none, none, none, none] [some (.ins 2 [] [])] = .ok (.nx, [some (.ref 0), some kit, some (.lst names), none, none, none, none, none, none, none]) [some (.ins 2 [] [])] := by
      simp [m_Word___init___1, kn, nk]
    have s2 : m_Word___init___2 [some (.ref 0), some kit, some (.lst names), none, none, none, none, none, none, none] [some (.ins 2 [] [])] = .ok (.nx, [some (.ref 0), some kit, some (.lst names), none, none, none, none, none, none, none]) [some (.ins 2 [] [])] := by
      simp [m_Word___init___2, kn, nrs, ko]
    have s4 : m_Word___init___4 [some (.ref 0), some kit, some (.lst names), none, none, none, none, none, none, none] [some (.ins 2 [] [])] = .ok (.nx, [some (.ref 0), some kit, some (.lst names), none, none, none, none, none, none, none]) [some (.ins 2 [10] [kit])] := by
      simp [m_Word___init___4, putI]
    have s5 : m_Word___init___5 [some (.ref 0), some kit, some (.lst names), none, none, none, none, none, none, none] [some (.ins 2 [10] [kit])] = .ok (.nx, [some (.ref 0), some kit, some (.lst names), none, none, none, none, none, none, none]) [some (.ins 2 [10, 9] [kit, .tpx names])] := by
      simp [m_Word___init___5, putI]
    have s6 : m_Word___init___6 [some (.ref 0), some kit, some (.lst names), none, none, none, none, none, none, none] [some (.ins 2 [10, 9] [kit, .tpx names])] = .ok (.nx, [some (.ref 0), some kit, some (.lst names), none, none, none, none, none, none, none]) [some (.ins 2 [10, 9, 2] [kit, .tpx names, .tup [.int 0, .int 1]])] := by
      subst hkit
      simp [m_Word___init___6, putI, kitV, fld, fin]
    have s7 : m_Word___init___7 [some (.ref 0), some kit, some (.lst names), none, none, none, none, none, none, none] [some (.ins 2 [10, 9, 2] [kit, .tpx names, .tup [.int 0, .int 1]])] = .ok (.nx, [some (.ref 0), some kit, some (.lst names), none, none, none, none, none, none, none]) [some (.ins 2 [10, 9, 2, 11] [kit, .tpx names, .tup [.int 0, .int 1], .int 2])] := by
      subst hkit
      simp [m_Word___init___7, putI, kitV, fld]
    have s8 : m_Word___init___8 [some (.ref 0), some kit, some (.lst names), none, none, none, none, none, none, none] [some (.ins 2 [10, 9, 2, 11] [kit, .tpx names, .tup [.int 0, .int 1], .int 2])] =
        .ok (.nx, [some (.ref 0), some kit, some (.lst names), some (.ref 1), some (.tup [.int 0, .int 1]), none, none, none, none, none]) [some (.ins 2 [10, 9, 2, 11] [kit, .tpx names, .tup [.int 0, .int 1], .int 2]), some (.lst [])] := by
      simp [m_Word___init___8, view, viewO, look]
    have s14 : m_Word___init___14 [some (.ref 0), some kit, some (.lst names), some (.ref 1), some top, e5, e6, e7, e8, e9] [some (.ins 2 [10, 9, 2, 11] [kit, .tpx names, .tup [.int 0, .int 1], .int m]), some (.lst rs)] =
        .ok (.nx, [some (.ref 0), some kit, some (.lst names), some (.ref 1), some top, e5, e6, e7, e8, e9]) [some (.ins 2 [10, 9, 2, 11, 3] [kit, .tpx names, .tup [.int 0, .int 1], .int m, top]), some (.lst rs)] := by
      simp [m_Word___init___14, putI]
    have s15 : m_Word___init___15 [some (.ref 0), some kit, some (.lst names), some (.ref 1), some top, e5, e6, e7, e8, e9] [some (.ins 2 [10, 9, 2, 11, 3] [kit, .tpx names, .tup [.int 0, .int 1], .int m, top]), some (.lst rs)] =
        .ok (.nx, [some (.ref 0), some kit, some (.lst names), some (.ref 1), some top, e5, e6, e7, e8, e9]) [some (.ins 2 [10, 9, 2, 11, 3, 4] [kit, .tpx names, .tup [.int 0, .int 1], .int m, top, .tpx rs]), some (.lst rs)] := by
      simp [m_Word___init___15, putI, bTupleX, view, viewO]
    rw [r_Word___init___1, mThen_nx s1, r_Word___init___2, mThen_nx s2, r_Word___init___4, mThen_nx s4, r_Word___init___5, mThen_nx s5, r_Word___init___6, mThen_nx s6, r_Word___init___7, mThen_nx s7, r_Word___init___8, mThen_nx s8, r_Word___init___9, mThen_nx m9, r_Word___init___14, mThen_nx s14, s15]
  unfold k_Word___init__ pureMk
  rw [pre, all]
  simp [viewO, kn, nrs, nt, hr]
end L22

/-! P22f: rails by groupings; deeds of the kinds. -/
namespace L22
open PySem Iv L2
/-- the groupings of four pieces, ascending -/
def gr4 : List (List Int) := [[0,0,0,0],[0,0,0,1],[0,0,1,0],[0,0,1,1],[0,0,1,2],[0,1,0,0],[0,1,0,1],[0,1,0,2],[0,1,1,0],[0,1,1,1],[0,1,1,2],[0,1,2,0],[0,1,2,1],[0,1,2,2],[0,1,2,3]]
def one (g f l b a : Int) (lo hi : Bool) (r : List Int) : List Int := match r with
  | [p, q, s, t] => if (lo || p == q) && (hi || s == t) then [g * (max (max (max p q) s) t) -
      (([(decide (p ≠ s), f), (decide (q ≠ t), l), (decide (p ≠ q), if lo then b else 0), (decide (s ≠ t), if hi then a else 0)] : List (Bool × Int)).filterMap fun x => if x.1 then some x.2 else none).sum] else []
  | _ => []
def ent (g f l b a : Int) (lo hi : Bool) : Int := ((gr4.map (one g f l b a lo hi)).flatten).foldl max 0
/-- what stands behind the first test -/
def tailR (xs : List IV) : Option IV := match r__law_rails_rows_3 (xs.map some ++ List.replicate 10 none) [] with
  | .ok (.rt v, _) _ => if noRef v = true then some v else none
  | _ => none
def rowsV (g f l b a : Int) : IV := .tpx [.tpx [.int (ent g f l b a false false), .int (ent g f l b a false true)], .tpx [.int (ent g f l b a true false), .int (ent g f l b a true true)]]
theorem rr1 (f l b a : Int) : tailR [.int 1, .int f, .int l, .int b, .int a] = some (rowsV 1 f l b a) := by kernel_rfl
theorem rr3 (f l b a : Int) : tailR [.int 3, .int f, .int l, .int b, .int a] = some (rowsV 3 f l b a) := by kernel_rfl
theorem rr6 (f l b a : Int) : tailR [.int 6, .int f, .int l, .int b, .int a] = some (rowsV 6 f l b a) := by kernel_rfl
theorem rails_due {g : Int} (hg : Gr g) (f l b a : Int) : p__law_rails_rows [.int g, .int f, .int l, .int b, .int a] = if f + l < g then some (.tup []) else some (rowsV g f l b a) := by
  have t : tailR [.int g, .int f, .int l, .int b, .int a] = some (rowsV g f l b a) := by
    rcases hg with rfl | rfl | rfl
    · exact rr1 f l b a
    · exact rr3 f l b a
    · exact rr6 f l b a
  have pre : p__law_rails_rows [.int g, .int f, .int l, .int b, .int a] = match (r__law_rails_rows_1 ([.int g, .int f, .int l, .int b, .int a].map some ++ List.replicate 10 none) []).bind (fun r h1 => match r with
      | (.rt v, _) => .ok v h1
      | (.nx, _) => .ok .non h1
      | _ => .bad) with
    | .ok y _ => if noRef y = true then some y else none
    | .bad => none := rfl
  by_cases hc : f + l < g
  · rw [if_pos hc, pre, r__law_rails_rows_1, mThen_rt (f := m__law_rails_rows_1) (env1 := [.int g, .int f, .int l, .int b, .int a].map some ++ List.replicate 10 none) (h1 := []) (v := .tup []) (by simp [m__law_rails_rows_1, m__law_rails_rows_2, hc])]
    rfl
  · rw [if_neg hc, ← t, pre, r__law_rails_rows_1, mThen_nx (f := m__law_rails_rows_1) (env1 := [.int g, .int f, .int l, .int b, .int a].map some ++ List.replicate 10 none) (h1 := []) (by simp [m__law_rails_rows_1, m__law_rails_rows_2, hc])]
    unfold tailR at t ⊢
    split at t
    · rename_i v e h e1
      rw [e1]
      rfl
    · cases t
/-- a deed of rails, by groupings -/
def rDd (g f l b a : Int) : Dd := if f + l < g then .lost else .of (ent g f l b a false true) (ent g f l b a true false) (ent g f l b a true true)
def chk (g : Int) (n : Nat) : Bool := allB n fun f => allB n fun l => isV ((p_kind_rows [.int g, railsV f l]).bind fun r => p_made_deed [.int g, .int 2, r]) ((rDd g f l 0 0).enc g)
theorem chk1 : chk 1 4 = true := by kernel_rfl
end L22

/-! P22h: deeds of words. -/
namespace L22
open PySem Iv L2
/-- what a kit's kinds do, by name -/
def kdD (g : Int) (f l b a : Nat) : List IV := [(rDd g f l 0 0).enc g, (Dd.of 0 0 (max 0 (g - b))).enc g, (Dd.of 0 0 (max 0 (g - a))).enc g, (Dd.of 0 0 g).enc g]
def nm4 : List IV := [.str "rails", .str "low", .str "high", .str "cross"]
/-- each kind's rows give its deed -/
def RowsOk (g : Int) (k : IV) (x : Dd) : Prop := ∃ r, p_kind_rows [.int g, k] = some r ∧ noRef r = true ∧ p_made_deed [.int g, .int 2, r] = some (x.enc g)
theorem noRef_enc {g : Int} {x : Dd} : noRef (x.enc g) = true := by cases x <;> rfl
theorem dcl_nil {g : Mg} {c : Mb} {fk fv : Mv} {env : Iv.Env} {ks vs : List IV} {h : IH} : dcLoop g c fk fv env [] ks vs h = .ok (ks, vs) h := rfl
theorem dcl_cons {g : Mg} {c : Mb} {fk fv : Mv} {env : Iv.Env} {x : IV} {xs ks vs : List IV} {h : IH} : dcLoop g c fk fv env (x :: xs) ks vs h = (match g x env with
    | none => .bad
    | some env1 => (c env1 h).bind fun b h1 => if b = true then (fk env1 h1).bind fun y h2 => (fv env1 h2).bind fun z h3 => match kI y with
        | some k => if ks.length < sizeLine then dcLoop g c fk fv env xs (dputI y k z ks vs).1 (dputI y k z ks vs).2 h3 else .bad
        | none => .bad
      else dcLoop g c fk fv env xs ks vs h1) := rfl
theorem kI_s {s : Str} : kI (.str s) = some (.inr s) := rfl
theorem dp1 {z : IV} : dputI (.str "rails") (.inr "rails") z [] [] = ([.str "rails"], [z]) := by kernel_rfl
theorem dp2 {z v1 : IV} : dputI (.str "low") (.inr "low") z [.str "rails"] [v1] = ([.str "rails", .str "low"], [v1, z]) := by kernel_rfl
theorem dp3 {z v1 v2 : IV} : dputI (.str "high") (.inr "high") z [.str "rails", .str "low"] [v1, v2] = ([.str "rails", .str "low", .str "high"], [v1, v2, z]) := by kernel_rfl
theorem dp4 {z v1 v2 v3 : IV} : dputI (.str "cross") (.inr "cross") z [.str "rails", .str "low", .str "high"] [v1, v2, v3] = ([.str "rails", .str "low", .str "high", .str "cross"], [v1, v2, v3, z]) := by kernel_rfl
theorem kind_deeds_ok {d g : Int} {f l b a : Nat} {x1 x2 x3 x4 : Dd} (h1 : RowsOk g (railsV f l) x1) (h2 : RowsOk g (lowV b) x2) (h3 : RowsOk g (highV a) x3) (h4 : RowsOk g crossV x4) :
    p_kind_deeds [kitK d g f l b a] = some (.dic nm4 [x1.enc g, x2.enc g, x3.enc g, x4.enc g]) := by
  obtain ⟨r1, a1, n1, b1⟩ := h1
  obtain ⟨r2, a2, n2, b2⟩ := h2
  obtain ⟨r3, a3, n3, b3⟩ := h3
  obtain ⟨r4, a4, n4, b4⟩ := h4
  have nr := nr_rsR (f := f) (l := l)
  have nr2 := nr_rsS (k := b)
  have nr3 := nr_rsS (k := a)
  simp only [railsV, lowV, highV, crossV, kV] at a1 a2 a3 a4
  simp [p_kind_deeds, mf_kind_deeds, pureM, bodyM, m_kind_deeds, kitK, kitV, railsV, lowV, highV, crossV, kV, a1, a2, a3, a4, b1, b2, b3, b4, n1, n2, n3, n4, nr, nr2, nr3, dcl_nil, dcl_cons, kI_s, dp1, dp2, dp3, dp4, noRef_enc, nm4]
/-- a word's deed: its kinds', one on another -/
def foldD (g : Int) (xs : List Dd) : Dd := xs.foldl (put g) (.of 0 0 g)
theorem names_of_ok {d g : Int} {ks names4 names dk dv : List IV} {dd : IV → Dd} (hg : Gr g) (hks : noRefs ks = true) (hn4 : noRefs names4 = true) (hdk : noRefs dk = true) (hdv : noRefs dv = true) (hn : noRefs names = true)
    (h : ∀ x ∈ names, ∃ s, x = .str s ∧ dgetI (.inr s) dk dv = some ((dd x).enc g) ∧ (dd x).ok g) :
    p_deed_of_names [kitV d g ks names4, .dic dk dv, .tpx names] = some ((foldD g (names.map dd)).enc g) := by
  have e0 : Dd.ok g (.of 0 0 g) := by rcases hg with rfl | rfl | rfl <;> exact ⟨by decide, by decide, by decide, by decide, by decide, by decide, by decide, by decide⟩
  -- the loop
  have loop : ∀ (xs : List IV) (x : Dd) (e4 : Option IV), x.ok g → (∀ x ∈ xs, ∃ s, x = .str s ∧ dgetI (.inr s) dk dv = some ((dd x).enc g) ∧ (dd x).ok g) →
      ∃ e4', forLoop (gN 4) m_deed_of_names_3 xs [some (kitV d g ks names4), some (.dic dk dv), some (.tpx names), some (x.enc g), e4] [] =
        .ok (.nx, [some (kitV d g ks names4), some (.dic dk dv), some (.tpx names), some (((xs.map dd).foldl (put g) x).enc g), e4']) [] := by
    intro xs
    induction xs with
    | nil => exact fun x e4 _ _ => ⟨e4, rfl⟩
    | cons y ys ih =>
      intro x e4 hx hy
      obtain ⟨s, rfl, hd, ho⟩ := hy y List.mem_cons_self
      obtain ⟨e4', e⟩ := ih (put g x (dd (.str s))) (some (.str s)) (put_steady hx ho) fun z hz => hy z (List.mem_cons_of_mem _ hz)
      refine ⟨e4', ?_⟩
      rw [e_forCons]
      have st : m_deed_of_names_3 [some (kitV d g ks names4), some (.dic dk dv), some (.tpx names), some (x.enc g), some (.str s)] [] = .ok (.nx, [some (kitV d g ks names4), some (.dic dk dv), some (.tpx names), some ((put g x (dd (.str s))).enc g), some (.str s)]) [] := by
        simp [m_deed_of_names_3, kI_s, hd, noRef_enc, put_ok hg hx ho]
      simp only [e_gN, List.set_cons_succ, List.set_cons_zero, st, rbind_ok, List.map_cons, List.foldl_cons]
      exact e
  obtain ⟨e4', e⟩ := loop names (.of 0 0 g) none e0 h
  have em := empty_ok hg
  have er := empty_deed_rows hg
  have s1 : m_deed_of_names_1 [some (kitV d g ks names4), some (.dic dk dv), some (.tpx names), none, none] [] = .ok (.nx, [some (kitV d g ks names4), some (.dic dk dv), some (.tpx names), some ((Dd.of 0 0 g).enc g), none]) [] := by
    simp [m_deed_of_names_1, kitV, look, er, em]
  have s2 : m_deed_of_names_2 [some (kitV d g ks names4), some (.dic dk dv), some (.tpx names), some ((Dd.of 0 0 g).enc g), none] [] = .ok (.nx, [some (kitV d g ks names4), some (.dic dk dv), some (.tpx names), some ((foldD g (names.map dd)).enc g), e4']) [] := by
    rw [foldD, ← e]
    simp [m_deed_of_names_2]
  have pre : p_deed_of_names [kitV d g ks names4, .dic dk dv, .tpx names] = match (r_deed_of_names_1 [some (kitV d g ks names4), some (.dic dk dv), some (.tpx names), none, none] []).bind (fun r h1 => match r with
      | (.rt v, _) => .ok v h1
      | (.nx, _) => .ok .non h1
      | _ => .bad) with
    | .ok y _ => if noRef y = true then some y else none
    | .bad => none := rfl
  rw [pre, r_deed_of_names_1, mThen_nx s1, r_deed_of_names_2, mThen_nx s2]
  simp [m_deed_of_names_4, noRef_enc]
theorem deed_of_ok {d g : Int} {ks names4 names dk dv : List IV} {dd : IV → Dd} {w : IV} (hg : Gr g) (hks : noRefs ks = true) (hn4 : noRefs names4 = true) (hdk : noRefs dk = true) (hdv : noRefs dv = true) (hn : noRefs names = true)
    (hkd : p_kind_deeds [kitV d g ks names4] = some (.dic dk dv)) (h : ∀ x ∈ names, ∃ s, x = .str s ∧ dgetI (.inr s) dk dv = some ((dd x).enc g) ∧ (dd x).ok g) (hw : IsWord (kitV d g ks names4) names w) :
    p_deed_of [w] = some ((foldD g (names.map dd)).enc g) := by
  obtain ⟨a, b, c, e, rfl, hnr⟩ := hw
  have nw : ∀ ns : List Nat, ∀ vs : List IV, p_need_word [.ins 2 ns vs, .str "word"] = if noRefs vs = true then some (.ins 2 ns vs) else none := fun ns vs => by
    cases hv : noRefs vs <;> simp [p_need_word, mf_need_word, pureM, bodyM, m_need_word, kt_Word, ktT, hv]
  have no := names_of_ok (d := d) (names4 := names4) hg hks hn4 hdk hdv hn h
  have kn : noRef (kitV d g ks names4) = true := by simp [kitV, hks, hn4]
  have hnr' : noRefs [kitV d g ks names4, .tpx names, a, b, c, e] = true := hnr
  generalize kitV d g ks names4 = kit at *
  simp at hnr'
  simp [p_deed_of, mf_deed_of, pureM, bodyM, m_deed_of, nw, hnr', kn, hn, look, hkd, hdk, hdv, no, noRef_enc]
end L22

/-! P22i: the law's own deeds. -/
namespace L22
open PySem Iv L2
/-- a deed's rows -/
def rowsI : Dd → IV
  | .lost => .tpx []
  | .of y x z => .tpx [.tpx [.int 0, .int y], .tpx [.int x, .int z]]
/-- the law's own rows -/
def lawI : Dd → IV
  | .lost => .tup []
  | .of y x z => .tpx [.tpx [.int 0, .int y], .tpx [.int x, .int z]]
theorem noRef_rowsI {x : Dd} : noRef (rowsI x) = true := by cases x <;> rfl
theorem noRef_lawI {x : Dd} : noRef (lawI x) = true := by cases x <;> rfl
theorem parts2 : p__law_ce_partings [.int 2] = some (.lst [.tup [.int 0, .int 0], .tup [.int 0, .int 1]]) := by kernel_rfl
def plainX (d : Int) (X : IV) : IV := .tup [.int d, .int 2, X]
theorem grade_ok {d g : Int} {X : IV} (h : DG d g) (hX : noRef X = true) : p__law_ce_grade [plainX d X] = some (.int g) := by
  have gx : atI [IV.int 0, IV.int 1, IV.int 3, IV.int 6] d = some (.int g) := by rcases h with ⟨rfl, rfl⟩ | ⟨rfl, rfl⟩ | ⟨rfl, rfl⟩ <;> kernel_rfl
  simp [p__law_ce_grade, mf__law_ce_grade, pureM, bodyM, m__law_ce_grade, plainX, gx]
theorem own_empty {d g : Int} {X : IV} (h : DG d g) (hX : noRef X = true) : p__law_ce_empty [plainX d X] = some (lawI (.of 0 0 g)) := by
  have go := grade_ok (X := X) h hX
  have j00 : p__law_ce_join [.tup [.int 0, .int 0], .tup [.int 0, .int 0]] = some (.tpx [.int 0, .int 0]) := by kernel_rfl
  have j01 : p__law_ce_join [.tup [.int 0, .int 0], .tup [.int 0, .int 1]] = some (.tpx [.int 0, .int 0]) := by kernel_rfl
  have j10 : p__law_ce_join [.tup [.int 0, .int 1], .tup [.int 0, .int 0]] = some (.tpx [.int 0, .int 0]) := by kernel_rfl
  have j11 : p__law_ce_join [.tup [.int 0, .int 1], .tup [.int 0, .int 1]] = some (.tpx [.int 0, .int 1]) := by kernel_rfl
  have g2 : (-18446744073709551616 < g) ∧ g < 18446744073709551616 := by rcases h.gr with rfl | rfl | rfl <;> decide
  simp only [plainX] at go
  have bx : ∀ {j k : Int} {h0 : IH}, bMax [.tpx [.int j, .int k]] h0 = .ok (.int (max j k)) h0 := fun {j k h0} => rfl
  have m01 : max (0 : Int) 1 = 1 := by decide
  simp [m01, p__law_ce_empty, mf__law_ce_empty, pureM, bodyM, m__law_ce_empty, plainX, parts2, go, j00, j01, j10, j11, hX, bx, g2, lawI]
theorem eqL_lost : cmpI .eq (.tup []) (.tup []) = some true := by kernel_rfl
theorem own_after {d g : Int} {X : IV} {a b : Dd} (h : DG d g) (hX : noRef X = true) : p__law_ce_after [plainX d X, lawI a, lawI b] = some (lawI (put g a b)) := by
  have go := grade_ok (X := X) h hX
  simp only [plainX] at go
  cases a with
  | lost => simp [p__law_ce_after, mf__law_ce_after, pureM, bodyM, m__law_ce_after, plainX, lawI, eqL_lost, put]
  | of y1 x1 z1 =>
    cases b with
    | lost => simp [p__law_ce_after, mf__law_ce_after, pureM, bodyM, m__law_ce_after, plainX, lawI, eqL_lost, ne_rows, put]
    | of y2 x2 z2 =>
      have g2 : (-18446744073709551616 < g) ∧ g < 18446744073709551616 := by rcases h.gr with rfl | rfl | rfl <;> decide
      have m01 : max (0 : Int) 1 = 1 := by decide
      have e1 : ∀ u v : Int, u - g + v = u + v - g := fun u v => by omega
      by_cases hl : y1 + x2 ≤ g
      · have m0 : max 0 (y1 + x2 - g) = 0 := by omega
        simp [p__law_ce_after, mf__law_ce_after, pureM, bodyM, m__law_ce_after, plainX, lawI, ne_rows, parts2, go, hX, g2, rngI, List.range, List.range.loop, lstAt, viewO, eq0, put, hl, m01, m0, view, e1, bTupleX, lstI]
      · have m0 : ¬ (max 0 (y1 + x2 - g) = 0) := by omega
        simp [p__law_ce_after, mf__law_ce_after, pureM, bodyM, m__law_ce_after, plainX, lawI, ne_rows, parts2, go, hX, g2, rngI, List.range, List.range.loop, lstAt, viewO, eq0, put, hl, m01, m0, view, e1, bTupleX, lstI]
/-- the fold of the law's own -/
theorem own_deed {d g : Int} {X : IV} {dk dv names : List IV} {dd : IV → Dd} (h : DG d g) (hX : noRef X = true) (hdk : noRefs dk = true) (hdv : noRefs dv = true) (hn : noRefs names = true)
    (hs : ∀ x ∈ names, ∃ s, x = .str s ∧ dgetI (.inr s) dk dv = some (lawI (dd x))) : p__law_ce_deed [plainX d X, .dic dk dv, .tup names] = some (lawI (foldD g (names.map dd))) := by
  have loop : ∀ (xs : List IV) (x : Dd) (e4 : Option IV), (∀ x ∈ xs, ∃ s, x = .str s ∧ dgetI (.inr s) dk dv = some (lawI (dd x))) →
      ∃ e4', forLoop (gN 4) (mSet 3 (mCallP 3 p__law_ce_after [] (mCons (mVar 0) (mCons (mVar 3) (mCons (mDix (mVar 1) (mVar 4)) (mNil)))))) xs [some (plainX d X), some (.dic dk dv), some (.tup names), some (lawI x), e4] [] =
        .ok (.nx, [some (plainX d X), some (.dic dk dv), some (.tup names), some (lawI ((xs.map dd).foldl (put g) x)), e4']) [] := by
    intro xs
    induction xs with
    | nil => exact fun x e4 _ => ⟨e4, rfl⟩
    | cons y ys ih =>
      intro x e4 hy
      obtain ⟨s, rfl, hd⟩ := hy y List.mem_cons_self
      obtain ⟨e4', e⟩ := ih (put g x (dd (.str s))) (some (.str s)) fun z hz => hy z (List.mem_cons_of_mem _ hz)
      refine ⟨e4', ?_⟩
      rw [e_forCons]
      have af := own_after (a := x) (b := dd (.str s)) h hX
      have st : mSet 3 (mCallP 3 p__law_ce_after [] (mCons (mVar 0) (mCons (mVar 3) (mCons (mDix (mVar 1) (mVar 4)) (mNil))))) [some (plainX d X), some (.dic dk dv), some (.tup names), some (lawI x), some (.str s)] [] =
          .ok (.nx, [some (plainX d X), some (.dic dk dv), some (.tup names), some (lawI (put g x (dd (.str s)))), some (.str s)]) [] := by
        simp [plainX] at af
        simp [kI_s, hd, noRef_lawI, plainX, hX, af]
      simp only [e_gN, List.set_cons_succ, List.set_cons_zero, st, rbind_ok, List.map_cons, List.foldl_cons]
      exact e
  obtain ⟨e4', e⟩ := loop names (.of 0 0 g) none hs
  have oe := own_empty (X := X) h hX
  rw [← foldD] at e
  simp [plainX] at oe e
  simp [p__law_ce_deed, mf__law_ce_deed, pureM, bodyM, m__law_ce_deed, plainX, hX, oe, e, noRef_lawI]
end L22

/-! P22j: the law's own steps; words of the kit. -/
namespace L22
open PySem Iv L2
def OwnRows (d : Int) (X k : IV) (x : Dd) : Prop := p__law_ce_kind_rows [plainX d X, k] = some (lawI x)
def bdI (ks vs : List IV) : IV := .dic ks vs
theorem own_steps {d : Int} {f l b a : Nat} {x1 x2 x3 x4 : Dd} (h1 : OwnRows d (.tup [plR f l, plS "low" b, plS "high" a, plX]) (plR f l) x1) (h2 : OwnRows d (.tup [plR f l, plS "low" b, plS "high" a, plX]) (plS "low" b) x2)
    (h3 : OwnRows d (.tup [plR f l, plS "low" b, plS "high" a, plX]) (plS "high" a) x3) (h4 : OwnRows d (.tup [plR f l, plS "low" b, plS "high" a, plX]) plX x4) :
    p__law_ce_steps [plain d f l b a] = some (.dic nm4 [lawI x1, lawI x2, lawI x3, lawI x4]) := by
  have nr := nr_rsR (f := f) (l := l)
  have nr2 := nr_rsS (k := b)
  have nr3 := nr_rsS (k := a)
  simp only [OwnRows, plainX, plR, plS, plX] at h1 h2 h3 h4
  have bd : ∀ (v1 v2 v3 v4 : IV), bDict [.lst [.tup [.str "rails", v1], .tup [.str "low", v2], .tup [.str "high", v3], .tup [.str "cross", v4]]] [] = .ok (.ref 0) [some (.dic nm4 [v1, v2, v3, v4])] := fun v1 v2 v3 v4 => by kernel_rfl
  simp [p__law_ce_steps, mf__law_ce_steps, pureM, bodyM, m__law_ce_steps, plain, plR, plS, plX, h1, h2, h3, h4, nr, nr2, nr3, bd, frz, viewO, noRef_lawI, nm4]
section
variable {d g : Int} {f l b a : Nat}
theorem m0n : cmpI .isin (.str "rails") (.tup nm4) = some true := by kernel_rfl
theorem m1n : cmpI .isin (.str "low") (.tup nm4) = some true := by kernel_rfl
theorem m2n : cmpI .isin (.str "high") (.tup nm4) = some true := by kernel_rfl
theorem m3n : cmpI .isin (.str "cross") (.tup nm4) = some true := by kernel_rfl
theorem kitK_nm : kitK d g f l b a = kitV d g [railsV f l, lowV b, highV a, crossV] nm4 := rfl
theorem name_ok {x : IV} (hf : f < 9) (hl : l < 9) (hb : b < 8) (ha : a < 8) (h : x ∈ nm4) : Nonempty (NameOk (kitK d g f l b a) nm4 x) := by
  simp only [nm4, List.mem_cons, List.not_mem_nil, or_false] at h
  rcases h with rfl | rfl | rfl | rfl
  · exact ⟨⟨_, rfl, m0n, _, kind_rails, st_rails hf hl⟩⟩
  · exact ⟨⟨_, rfl, m1n, _, kind_low, st_low hb⟩⟩
  · exact ⟨⟨_, rfl, m2n, _, kind_high, st_high ha⟩⟩
  · exact ⟨⟨_, rfl, m3n, _, kind_cross, st_cross⟩⟩
theorem nks : noRefs [railsV f l, lowV b, highV a, crossV] = true := by simp [nr_rails, nr_low, nr_high, nr_cross]
theorem word_kit {names : List IV} (hf : f < 9) (hl : l < 9) (hb : b < 8) (ha : a < 8) (hn : names.length ≤ 60) (h : ∀ x ∈ names, x ∈ nm4) : ∃ w, k_Word___init__ [kitK d g f l b a, .lst names] = some w ∧ IsWord (kitK d g f l b a) names w :=
  word_ok nks rfl hn fun x hx => name_ok hf hl hb ha (h x hx)
end
/-- what a name does -/
def ddOf (x1 x2 x3 x4 : Dd) (x : IV) : Dd := match x with
  | .str s => if s = "rails" then x1 else if s = "low" then x2 else if s = "high" then x3 else x4
  | _ => x4
theorem dd0 {x1 x2 x3 x4 : Dd} : ddOf x1 x2 x3 x4 (.str "rails") = x1 := by kernel_rfl
theorem dd1 {x1 x2 x3 x4 : Dd} : ddOf x1 x2 x3 x4 (.str "low") = x2 := by kernel_rfl
theorem dd2 {x1 x2 x3 x4 : Dd} : ddOf x1 x2 x3 x4 (.str "high") = x3 := by kernel_rfl
theorem dd3 {x1 x2 x3 x4 : Dd} : ddOf x1 x2 x3 x4 (.str "cross") = x4 := by kernel_rfl
theorem dg0 {v1 v2 v3 v4 : IV} : dgetI (.inr "rails") nm4 [v1, v2, v3, v4] = some v1 := by kernel_rfl
theorem dg1 {v1 v2 v3 v4 : IV} : dgetI (.inr "low") nm4 [v1, v2, v3, v4] = some v2 := by kernel_rfl
theorem dg2 {v1 v2 v3 v4 : IV} : dgetI (.inr "high") nm4 [v1, v2, v3, v4] = some v3 := by kernel_rfl
theorem dg3 {v1 v2 v3 v4 : IV} : dgetI (.inr "cross") nm4 [v1, v2, v3, v4] = some v4 := by kernel_rfl
theorem get_ok {α : Type} {x1 x2 x3 x4 : Dd} {e : Dd → IV} {P : Dd → Prop} (h1 : P x1) (h2 : P x2) (h3 : P x3) (h4 : P x4) {x : IV} (h : x ∈ nm4) : ∃ s, x = .str s ∧ dgetI (.inr s) nm4 [e x1, e x2, e x3, e x4] = some (e (ddOf x1 x2 x3 x4 x)) ∧ P (ddOf x1 x2 x3 x4 x) := by
  simp only [nm4, List.mem_cons, List.not_mem_nil, or_false] at h
  rcases h with rfl | rfl | rfl | rfl
  · exact ⟨_, rfl, by rw [dd0]; exact dg0, by rw [dd0]; exact h1⟩
  · exact ⟨_, rfl, by rw [dd1]; exact dg1, by rw [dd1]; exact h2⟩
  · exact ⟨_, rfl, by rw [dd2]; exact dg2, by rw [dd2]; exact h3⟩
  · exact ⟨_, rfl, by rw [dd3]; exact dg3, by rw [dd3]; exact h4⟩
end L22

/-! P22m: rails between strings. -/
namespace L22
open PySem Iv L2
def strD (g : Int) (b : Int) : Dd := .of 0 0 (max 0 (g - b))
theorem x1 : max (0 : Int) 1 = 1 := by decide
theorem x2 : max (0 : Int) (max 1 2) = 2 := by decide
theorem x3 : max (0 : Int) (max 1 (max 2 3)) = 3 := by decide
theorem x4 : max (0 : Int) 2 = 2 := by decide
theorem x5 : max (0 : Int) 3 = 3 := by decide
theorem y1 : max (1 : Int) 0 = 1 := by decide
theorem y2 : max (1 : Int) 2 = 2 := by decide
theorem y3 : max (1 : Int) (max 2 0) = 2 := by decide
theorem y4 : max (1 : Int) (max 2 3) = 3 := by decide
theorem z1 : max (2 : Int) 0 = 2 := by decide
theorem z2 : max (2 : Int) 1 = 2 := by decide
theorem z3 : max (2 : Int) 3 = 3 := by decide
theorem e00 (g f l b a : Int) : ent g f l b a false false = max 0 (g - f - l) := by
  simp [ent, gr4, one, x1, x2, x3, x4, y1, y2, y3, y4]
  omega
def Ps (g x : Int) : Int := max 0 (g - x)
theorem ps_or (g x : Int) : (x ≤ g ∧ Ps g x = g - x) ∨ (g < x ∧ Ps g x = 0) := by unfold Ps; omega
theorem m5 {a b c d e N : Int} : max a (max b (max c (max d e))) ≤ N ↔ a ≤ N ∧ b ≤ N ∧ c ≤ N ∧ d ≤ N ∧ e ≤ N := by simp only [Int.max_le]
theorem e01r (g f l b a : Int) : ent g f l b a false true = max 0 (max (g - (f + l)) (max (g - (l + a)) (max (g - (f + a)) (2 * g - (f + l + a))))) := by
  simp [ent, gr4, one, x1, x2, x3, x4, y1, y2, y3, y4]
  omega
theorem e10r (g f l b a : Int) : ent g f l b a true false = max 0 (max (g - (f + l)) (max (g - (l + b)) (max (g - (f + b)) (2 * g - (f + l + b))))) := by
  simp [ent, gr4, one, x1, x2, x3, x4, y1, y2, y3, y4]
  omega
theorem three {g f l a : Int} (hg : 0 < g) (hf : 0 ≤ f) (hl : 0 ≤ l) (ha : 0 ≤ a) : max 0 (max (g - (f + l)) (max (g - (l + a)) (max (g - (f + a)) (2 * g - (f + l + a))))) = max 0 (Ps g f + Ps g l + Ps g a - g) := by
  have k := m5.mp (Int.le_refl (max 0 (max (g - (f + l)) (max (g - (l + a)) (max (g - (f + a)) (2 * g - (f + l + a)))))))
  have k2 : ∀ N, (0 ≤ N ∧ g - (f + l) ≤ N ∧ g - (l + a) ≤ N ∧ g - (f + a) ≤ N ∧ 2 * g - (f + l + a) ≤ N) → max 0 (max (g - (f + l)) (max (g - (l + a)) (max (g - (f + a)) (2 * g - (f + l + a))))) ≤ N := fun N h => m5.mpr h
  generalize max 0 (max (g - (f + l)) (max (g - (l + a)) (max (g - (f + a)) (2 * g - (f + l + a))))) = N at k k2 ⊢
  have up := k2 (max 0 (Ps g f + Ps g l + Ps g a - g))
  rcases ps_or g f with ⟨h1, e1⟩ | ⟨h1, e1⟩ <;> rcases ps_or g l with ⟨h2, e2⟩ | ⟨h2, e2⟩ <;> rcases ps_or g a with ⟨h3, e3⟩ | ⟨h3, e3⟩ <;> rw [e1, e2, e3] at up ⊢ <;>
    refine Int.le_antisymm (up ⟨?_, ?_, ?_, ?_, ?_⟩) ?_ <;> omega
def N11 (g f l b a : Int) : Int := max (0) (max (g - (l + a)) (max (g - (f + a)) (max (g - (f + l)) (max (g * 2 - (f + (l + a))) (max (g - (l + b)) (max (g - (b + a)) (max (g * 2 - (l + (b + a))) (max (g - (f + (l + (b + a)))) (max (g - (f + b)) (max (g * 2 - (f + (l + (b + a)))) (max (g * 2 - (f + (l + (b + a)))) (max (g * 2 - (f + (b + a))) (max (g * 2 - (f + (l + b))) (g * 3 - (f + (l + (b + a)))))))))))))))))
theorem e11r (g f l b a : Int) : ent g f l b a true true = N11 g f l b a := by
  simp [ent, gr4, one, x1, x2, x3, x4, y1, y2, y3, y4, z1, z2, z3, N11]
theorem m15 {t0 t1 t2 t3 t4 t5 t6 t7 t8 t9 t10 t11 t12 t13 t14 N : Int} : max (t0) (max (t1) (max (t2) (max (t3) (max (t4) (max (t5) (max (t6) (max (t7) (max (t8) (max (t9) (max (t10) (max (t11) (max (t12) (max (t13) (t14)))))))))))))) ≤ N ↔ t0 ≤ N ∧ t1 ≤ N ∧ t2 ≤ N ∧ t3 ≤ N ∧ t4 ≤ N ∧ t5 ≤ N ∧ t6 ≤ N ∧ t7 ≤ N ∧ t8 ≤ N ∧ t9 ≤ N ∧ t10 ≤ N ∧ t11 ≤ N ∧ t12 ≤ N ∧ t13 ≤ N ∧ t14 ≤ N := by simp only [Int.max_le]
theorem four {g f l b a : Int} (hg : 0 < g) (hf : 0 ≤ f) (hl : 0 ≤ l) (hb : 0 ≤ b) (ha : 0 ≤ a) : N11 g f l b a = max 0 (Ps g f + Ps g l + Ps g b + Ps g a - g) := by
  have k := m15.mp (Int.le_refl (N11 g f l b a))
  have k2 : ∀ N, ((0) ≤ N ∧ (g - (l + a)) ≤ N ∧ (g - (f + a)) ≤ N ∧ (g - (f + l)) ≤ N ∧ (g * 2 - (f + (l + a))) ≤ N ∧ (g - (l + b)) ≤ N ∧ (g - (b + a)) ≤ N ∧ (g * 2 - (l + (b + a))) ≤ N ∧ (g - (f + (l + (b + a)))) ≤ N ∧ (g - (f + b)) ≤ N ∧ (g * 2 - (f + (l + (b + a)))) ≤ N ∧ (g * 2 - (f + (l + (b + a)))) ≤ N ∧ (g * 2 - (f + (b + a))) ≤ N ∧ (g * 2 - (f + (l + b))) ≤ N ∧ (g * 3 - (f + (l + (b + a)))) ≤ N) → N11 g f l b a ≤ N := fun N h => m15.mpr h
  generalize N11 g f l b a = N at k k2 ⊢
  have up := k2 (max 0 (Ps g f + Ps g l + Ps g b + Ps g a - g))
  rcases ps_or g f with ⟨h1, e1⟩ | ⟨h1, e1⟩ <;> rcases ps_or g l with ⟨h2, e2⟩ | ⟨h2, e2⟩ <;> rcases ps_or g a with ⟨h3, e3⟩ | ⟨h3, e3⟩ <;> rcases ps_or g b with ⟨h4, e4⟩ | ⟨h4, e4⟩ <;> rw [e1, e2, e3, e4] at up ⊢ <;>
    refine Int.le_antisymm (up ⟨?_, ?_, ?_, ?_, ?_, ?_, ?_, ?_, ?_, ?_, ?_, ?_, ?_, ?_, ?_⟩) ?_ <;> omega
theorem between {g f l b a : Int} (hg : 0 < g) (hf : 0 ≤ f) (hl : 0 ≤ l) (hb : 0 ≤ b) (ha : 0 ≤ a) : put g (put g (put g (.of 0 0 g) (strD g b)) (rDd g f l 0 0)) (strD g a) = rDd g f l b a := by
  unfold rDd
  by_cases h : f + l < g
  · rw [if_pos h, if_pos h]
    simp [put, strD]
  · rw [if_neg h, if_neg h]
    have s0 : Ps g 0 = g := by unfold Ps; omega
    simp only [e01r, e10r, e11r, three hg hf hl (Int.le_refl 0), three hg hf hl ha, three hg hf hl hb, four hg hf hl (Int.le_refl 0) (Int.le_refl 0), four hg hf hl hb ha, s0]
    have p1 := ps_or g f
    have p2 := ps_or g l
    have p3 := ps_or g b
    have p4 := ps_or g a
    have eb : max 0 (g - b) = Ps g b := rfl
    have ea : max 0 (g - a) = Ps g a := rfl
    simp only [strD, put, eb, ea]
    generalize Ps g f = F at *
    generalize Ps g l = L at *
    generalize Ps g b = B at *
    generalize Ps g a = A at *
    have c1 : (0 : Int) + 0 ≤ g := by omega
    rw [if_pos c1]
    simp only [put]
    have e : max 0 (F + L + g - g) = F + L := by omega
    have e2 : max 0 (F + L + g + g - g) = F + L + g := by omega
    rw [e, e2, if_pos (by omega)]
    simp only [put]
    rw [if_pos (by omega)]
    congr 1
    · omega
    · omega
    · omega
end L22

/-! P22n: deeds steady; strings; the fast kit. -/
namespace L22
open PySem Iv L2
theorem rDd_form {g f l : Int} (hg : 0 < g) (hf : 0 ≤ f) (hl : 0 ≤ l) : rDd g f l 0 0 = if f + l < g then .lost else .of (Ps g f + Ps g l) (Ps g f + Ps g l) (Ps g f + Ps g l + g) := by
  have s0 : Ps g 0 = g := by unfold Ps; omega
  have p1 := ps_or g f
  have p2 := ps_or g l
  unfold rDd
  simp only [e01r, e10r, e11r, three hg hf hl (Int.le_refl 0), four hg hf hl (Int.le_refl 0) (Int.le_refl 0), s0]
  congr 2 <;> omega
theorem rDd_ok {g f l : Int} (hg : 0 < g) (hf : 0 ≤ f) (hl : 0 ≤ l) : (rDd g f l 0 0).ok g := by
  rw [rDd_form hg hf hl]
  have p1 := ps_or g f
  have p2 := ps_or g l
  split
  · trivial
  · exact ⟨by omega, by omega, by omega, by omega, by omega, by omega, by omega, by omega⟩
theorem strD_ok {g b : Int} (hg : 0 < g) (hb : 0 ≤ b) : (strD g b).ok g := ⟨by omega, by omega, by omega, by omega, by omega, by omega, by omega, by omega⟩
theorem put_str {g a b : Int} (hg : 0 < g) (ha : 0 ≤ a) (hb : 0 ≤ b) : put g (strD g a) (strD g b) = strD g (a + b) := by
  simp only [put, strD]
  rw [if_pos (by omega)]
  congr 1 <;> omega
theorem str0 {g : Int} (hg : 0 < g) : (Dd.of 0 0 g) = strD g 0 := by
  unfold strD
  congr 1
  omega
/-- the same string, many times -/
theorem fold_str {g b : Int} (hg : 0 < g) (hb : 0 ≤ b) : ∀ (k : Nat) (a : Int), 0 ≤ a → (List.replicate k (strD g b)).foldl (put g) (strD g a) = strD g (a + b * k)
  | 0, a, _ => by simp
  | k + 1, a, ha => by
    rw [List.replicate_succ, List.foldl_cons, put_str hg ha hb, fold_str hg hb k (a + b) (by omega)]
    congr 1
    have : b * ((k + 1 : Nat) : Int) = b * k + b := by rw [Int.natCast_add, Int.mul_add]; simp
    omega
theorem fold_word {g b : Int} (hg : 0 < g) (hb : 0 ≤ b) (k m n : Nat) : foldD g (List.replicate k (strD g b) ++ List.replicate m (Dd.of 0 0 g) ++ List.replicate n (strD g b)) = strD g (b * (k + n : Nat)) := by
  have bk : 0 ≤ b * (k : Int) := Int.mul_nonneg hb (by omega)
  rw [foldD, List.foldl_append, List.foldl_append, str0 hg, fold_str hg hb k 0 (Int.le_refl 0), fold_str hg (Int.le_refl 0) m _ (by omega), fold_str hg hb n _ (by simp; exact bk)]
  congr 1
  rw [Int.natCast_add, Int.mul_add]
  simp
theorem fold_E {g : Int} (hg : 0 < g) (k : Nat) : foldD g (List.replicate k (Dd.of 0 0 g)) = .of 0 0 g := by
  rw [foldD, str0 hg, fold_str hg (Int.le_refl 0) k 0 (Int.le_refl 0)]
  congr 1
  simp
end L22

/-! P22g: what is asked of many numbers at once. -/
namespace L22
open PySem Iv L2
def isD (g : Int) (o : Option IV) (x : Dd) : Bool := match o with
  | some r => noRef r && isV (p_made_deed [.int g, .int 2, r]) (x.enc g)
  | none => false
theorem isD_ok {g : Int} {k : IV} {x : Dd} (h : isD g (p_kind_rows [.int g, k]) x = true) : RowsOk g k x := by
  unfold isD at h
  split at h
  · rename_i r e
    simp only [Bool.and_eq_true] at h
    exact ⟨r, e, h.1, isV_eq h.2⟩
  · cases h
def chkS (g : Int) (n : Nat) : Bool := allB n fun b => isD g (p_kind_rows [.int g, lowV b]) (strD g b) && isD g (p_kind_rows [.int g, highV b]) (strD g b)
theorem chkS1 : chkS 1 3 = true := by kernel_rfl
theorem chkS3 : chkS 3 5 = true := by kernel_rfl
theorem chkS6 : chkS 6 8 = true := by kernel_rfl
theorem chkX1 : isD 1 (p_kind_rows [.int 1, crossV]) (.of 0 0 1) = true := by kernel_rfl
theorem chkX3 : isD 3 (p_kind_rows [.int 3, crossV]) (.of 0 0 3) = true := by kernel_rfl
theorem chkX6 : isD 6 (p_kind_rows [.int 6, crossV]) (.of 0 0 6) = true := by kernel_rfl
def chkR (g : Int) (n : Nat) : Bool := allB n fun f => allB n fun l => isD g (p_kind_rows [.int g, railsV f l]) (rDd g f l 0 0)
/-- behind the law's grade and partings -/
def restL (d g : Int) (X k : IV) : Option IV := match r__law_ce_kind_rows_2 ([some (plainX d X), some k, some (.int g), some (.lst [.tup [.int 0, .int 0], .tup [.int 0, .int 1]])] ++ List.replicate 15 none) [] with
  | .ok (.rt v, _) _ => if noRef v = true then some v else none
  | _ => none
theorem own_rows {d g : Int} {X k : IV} {x : Dd} (h : DG d g) (hX : noRef X = true) (c : isV (restL d g X k) (lawI x) = true) : OwnRows d X k x := by
  have go := grade_ok (X := X) h hX
  have pre : p__law_ce_kind_rows [plainX d X, k] = match (r__law_ce_kind_rows_1 ([some (plainX d X), some k] ++ List.replicate 17 none) []).bind (fun r h1 => match r with
      | (.rt v, _) => .ok v h1
      | (.nx, _) => .ok .non h1
      | _ => .bad) with
    | .ok y _ => if noRef y = true then some y else none
    | .bad => none := rfl
  have s1 : m__law_ce_kind_rows_1 ([some (plainX d X), some k] ++ List.replicate 17 none) [] = .ok (.nx, [some (plainX d X), some k, some (.int g), some (.lst [.tup [.int 0, .int 0], .tup [.int 0, .int 1]])] ++ List.replicate 15 none) [] := by
    simp only [plainX] at go
    simp [m__law_ce_kind_rows_1, plainX, go, hX, parts2, List.replicate]
  have e := isV_eq c
  unfold OwnRows
  rw [pre, r__law_ce_kind_rows_1, mThen_nx s1]
  unfold restL at e
  split at e
  · rename_i v en h1 q
    rw [q]
    split at e
    · rename_i nr
      cases e
      simp only [rbind_ok]
      rw [if_pos nr]
    · cases e
  · cases e
theorem own_S1 (X : IV) : (allB 3 fun b => isV (restL 1 1 X (plS "low" b)) (lawI (strD 1 b)) && isV (restL 1 1 X (plS "high" b)) (lawI (strD 1 b))) = true := by kernel_rfl
theorem own_S3 (X : IV) : (allB 5 fun b => isV (restL 2 3 X (plS "low" b)) (lawI (strD 3 b)) && isV (restL 2 3 X (plS "high" b)) (lawI (strD 3 b))) = true := by kernel_rfl
theorem own_S6 (X : IV) : (allB 8 fun b => isV (restL 3 6 X (plS "low" b)) (lawI (strD 6 b)) && isV (restL 3 6 X (plS "high" b)) (lawI (strD 6 b))) = true := by kernel_rfl
theorem own_X1 (X : IV) : isV (restL 1 1 X plX) (lawI (.of 0 0 1)) = true := by kernel_rfl
theorem own_X3 (X : IV) : isV (restL 2 3 X plX) (lawI (.of 0 0 3)) = true := by kernel_rfl
theorem own_X6 (X : IV) : isV (restL 3 6 X plX) (lawI (.of 0 0 6)) = true := by kernel_rfl
def ownR (d g : Int) (X : IV) (n : Nat) : Bool := allB n fun f => allB n fun l => isV (restL d g X (plR f l)) (lawI (rDd g f l 0 0))
end L22

/-! P22q: rails of all numbers of ropes, asked one by one. -/
namespace L22
open PySem Iv L2
def chkRow (g : Int) (f n : Nat) : Bool := allB n fun l => isD g (p_kind_rows [.int g, railsV f l]) (rDd g f l 0 0)
def ownRow (d g : Int) (X : IV) (f n : Nat) : Bool := allB n fun l => isV (restL d g X (plR f l)) (lawI (rDd g f l 0 0))
theorem chkR1_0 : chkRow 1 0 4 = true := by kernel_rfl
theorem chkR1_1 : chkRow 1 1 4 = true := by kernel_rfl
theorem chkR1_2 : chkRow 1 2 4 = true := by kernel_rfl
theorem chkR1_3 : chkRow 1 3 4 = true := by kernel_rfl
theorem chkR1 {f : Nat} (h : f < 4) : chkRow 1 f 4 = true := by
  match f, h with
  | 0, _ => exact chkR1_0
  | 1, _ => exact chkR1_1
  | 2, _ => exact chkR1_2
  | 3, _ => exact chkR1_3
  | k + 4, h => omega
theorem own_R1_0 (X : IV) : ownRow 1 1 X 0 4 = true := by kernel_rfl
theorem own_R1_1 (X : IV) : ownRow 1 1 X 1 4 = true := by kernel_rfl
theorem own_R1_2 (X : IV) : ownRow 1 1 X 2 4 = true := by kernel_rfl
theorem own_R1_3 (X : IV) : ownRow 1 1 X 3 4 = true := by kernel_rfl
theorem own_R1 (X : IV) {f : Nat} (h : f < 4) : ownRow 1 1 X f 4 = true := by
  match f, h with
  | 0, _ => exact own_R1_0 X
  | 1, _ => exact own_R1_1 X
  | 2, _ => exact own_R1_2 X
  | 3, _ => exact own_R1_3 X
  | k + 4, h => omega
theorem chkR3_0 : chkRow 3 0 6 = true := by kernel_rfl
theorem chkR3_1 : chkRow 3 1 6 = true := by kernel_rfl
theorem chkR3_2 : chkRow 3 2 6 = true := by kernel_rfl
theorem chkR3_3 : chkRow 3 3 6 = true := by kernel_rfl
theorem chkR3_4 : chkRow 3 4 6 = true := by kernel_rfl
theorem chkR3_5 : chkRow 3 5 6 = true := by kernel_rfl
theorem chkR3 {f : Nat} (h : f < 6) : chkRow 3 f 6 = true := by
  match f, h with
  | 0, _ => exact chkR3_0
  | 1, _ => exact chkR3_1
  | 2, _ => exact chkR3_2
  | 3, _ => exact chkR3_3
  | 4, _ => exact chkR3_4
  | 5, _ => exact chkR3_5
  | k + 6, h => omega
theorem own_R3_0 (X : IV) : ownRow 2 3 X 0 6 = true := by kernel_rfl
theorem own_R3_1 (X : IV) : ownRow 2 3 X 1 6 = true := by kernel_rfl
theorem own_R3_2 (X : IV) : ownRow 2 3 X 2 6 = true := by kernel_rfl
theorem own_R3_3 (X : IV) : ownRow 2 3 X 3 6 = true := by kernel_rfl
theorem own_R3_4 (X : IV) : ownRow 2 3 X 4 6 = true := by kernel_rfl
theorem own_R3_5 (X : IV) : ownRow 2 3 X 5 6 = true := by kernel_rfl
theorem own_R3 (X : IV) {f : Nat} (h : f < 6) : ownRow 2 3 X f 6 = true := by
  match f, h with
  | 0, _ => exact own_R3_0 X
  | 1, _ => exact own_R3_1 X
  | 2, _ => exact own_R3_2 X
  | 3, _ => exact own_R3_3 X
  | 4, _ => exact own_R3_4 X
  | 5, _ => exact own_R3_5 X
  | k + 6, h => omega
theorem chkR6_0 : chkRow 6 0 9 = true := by kernel_rfl
theorem chkR6_1 : chkRow 6 1 9 = true := by kernel_rfl
theorem chkR6_2 : chkRow 6 2 9 = true := by kernel_rfl
theorem chkR6_3 : chkRow 6 3 9 = true := by kernel_rfl
theorem chkR6_4 : chkRow 6 4 9 = true := by kernel_rfl
theorem chkR6_5 : chkRow 6 5 9 = true := by kernel_rfl
theorem chkR6_6 : chkRow 6 6 9 = true := by kernel_rfl
theorem chkR6_7 : chkRow 6 7 9 = true := by kernel_rfl
theorem chkR6_8 : chkRow 6 8 9 = true := by kernel_rfl
theorem chkR6 {f : Nat} (h : f < 9) : chkRow 6 f 9 = true := by
  match f, h with
  | 0, _ => exact chkR6_0
  | 1, _ => exact chkR6_1
  | 2, _ => exact chkR6_2
  | 3, _ => exact chkR6_3
  | 4, _ => exact chkR6_4
  | 5, _ => exact chkR6_5
  | 6, _ => exact chkR6_6
  | 7, _ => exact chkR6_7
  | 8, _ => exact chkR6_8
  | k + 9, h => omega
theorem own_R6_0 (X : IV) : ownRow 3 6 X 0 9 = true := by kernel_rfl
theorem own_R6_1 (X : IV) : ownRow 3 6 X 1 9 = true := by kernel_rfl
theorem own_R6_2 (X : IV) : ownRow 3 6 X 2 9 = true := by kernel_rfl
theorem own_R6_3 (X : IV) : ownRow 3 6 X 3 9 = true := by kernel_rfl
theorem own_R6_4 (X : IV) : ownRow 3 6 X 4 9 = true := by kernel_rfl
theorem own_R6_5 (X : IV) : ownRow 3 6 X 5 9 = true := by kernel_rfl
theorem own_R6_6 (X : IV) : ownRow 3 6 X 6 9 = true := by kernel_rfl
theorem own_R6_7 (X : IV) : ownRow 3 6 X 7 9 = true := by kernel_rfl
theorem own_R6_8 (X : IV) : ownRow 3 6 X 8 9 = true := by kernel_rfl
theorem own_R6 (X : IV) {f : Nat} (h : f < 9) : ownRow 3 6 X f 9 = true := by
  match f, h with
  | 0, _ => exact own_R6_0 X
  | 1, _ => exact own_R6_1 X
  | 2, _ => exact own_R6_2 X
  | 3, _ => exact own_R6_3 X
  | 4, _ => exact own_R6_4 X
  | 5, _ => exact own_R6_5 X
  | 6, _ => exact own_R6_6 X
  | 7, _ => exact own_R6_7 X
  | 8, _ => exact own_R6_8 X
  | k + 9, h => omega
end L22

/-! P22p: the fast kit; deeds compared, shown. -/
namespace L22
open PySem Iv L2
def fsA : IV := .str "a"
def fsB : IV := .str "b"
def fsC : IV := .str "c"
def fsD : IV := .str "d"
def fastK (g : Nat) : IV := kV "rails" [fsA, fsB, fsC, fsD] [fsA, fsB] [fsC, fsD] (List.replicate g (.tpx [fsA, fsC]) ++ List.replicate g (.tpx [fsB, fsD]))
def fastV (d : Int) (g : Nat) : IV := kitV d g [fastK g] [.str "rails"]
def DGn (d : Int) (g : Nat) : Prop := (d = 1 ∧ g = 1) ∨ (d = 2 ∧ g = 3) ∨ (d = 3 ∧ g = 6)
theorem DGn.dg {d : Int} {g : Nat} (h : DGn d g) : DG d g := by
  rcases h with ⟨rfl, rfl⟩ | ⟨rfl, rfl⟩ | ⟨rfl, rfl⟩
  · exact .inl ⟨rfl, rfl⟩
  · exact .inr (.inl ⟨rfl, rfl⟩)
  · exact .inr (.inr ⟨rfl, rfl⟩)
theorem fast_kind {d : Int} {g : Nat} (h : DGn d g) : k_Kind___init__ [.str "rails", .lst [fsA, fsB, fsC, fsD], .lst [fsA, fsB], .lst [fsC, fsD], .lst (List.replicate g (.lst [fsA, fsC]) ++ List.replicate g (.lst [fsB, fsD]))] = some (fastK g) := by
  rcases h with ⟨rfl, rfl⟩ | ⟨rfl, rfl⟩ | ⟨rfl, rfl⟩ <;> kernel_rfl
theorem fast_kit {d : Int} {g : Nat} (h : DGn d g) : k_Kit___init__ [.int d, .int 2, .lst [fastK g]] = some (fastV d g) := by
  rcases h with ⟨rfl, rfl⟩ | ⟨rfl, rfl⟩ | ⟨rfl, rfl⟩ <;> kernel_rfl
theorem fast_deeds {d : Int} {g : Nat} (h : DGn d g) : p_kind_deeds [fastV d g] = some (.dic [.str "rails"] [(Dd.of 0 0 g).enc g]) := by
  rcases h with ⟨rfl, rfl⟩ | ⟨rfl, rfl⟩ | ⟨rfl, rfl⟩ <;> kernel_rfl
theorem fast_kd {d : Int} {g : Nat} (h : DGn d g) : p_Kit_kind [fastV d g, .str "rails"] = some (fastK g) := by
  rcases h with ⟨rfl, rfl⟩ | ⟨rfl, rfl⟩ | ⟨rfl, rfl⟩ <;> kernel_rfl
theorem fast_pairs {d : Int} {g : Nat} (h : DGn d g) : p_pairs_in [fastK g] = some (.lst ((List.replicate g (0, 2) ++ List.replicate g (1, 3)).map fun p : Nat × Nat => .tup [.int p.1, .int p.2])) := by
  rcases h with ⟨rfl, rfl⟩ | ⟨rfl, rfl⟩ | ⟨rfl, rfl⟩ <;> kernel_rfl
theorem fast_nr {d : Int} {g : Nat} (h : DGn d g) : noRef (fastK g) = true := by
  rcases h with ⟨rfl, rfl⟩ | ⟨rfl, rfl⟩ | ⟨rfl, rfl⟩ <;> kernel_rfl
theorem fast_g {d : Int} {g : Nat} (h : DGn d g) : g ≤ 6 := by
  rcases h with ⟨rfl, rfl⟩ | ⟨rfl, rfl⟩ | ⟨rfl, rfl⟩ <;> decide
def st_fast {d : Int} {g : Nat} (h : DGn d g) : KStep (fastK g) where
  nr := fast_nr h
  row := fun x y m => [x, y, m, m + 1]
  hi := fun x y m => (m, m + 1)
  prs := List.replicate g (0, 2) ++ List.replicate g (1, 3)
  sto := fun x y m => by kernel_rfl
  stx := fun x y m => by kernel_rfl
  hig := fun x y m => by kernel_rfl
  par := fast_pairs h
  len := by have := fast_g h; simp; omega
  inr := fun p hp x y m => by
    rcases List.mem_append.mp hp with hp | hp
    · rw [List.eq_of_mem_replicate hp]; simp
    · rw [List.eq_of_mem_replicate hp]; simp
  ne := fun x y m => by simp
  le := fun x y m => by simp
theorem fast_word {d : Int} {g : Nat} (h : DGn d g) {k : Nat} (hk : k ≤ 60) : ∃ w, k_Word___init__ [fastV d g, .lst (List.replicate k (.str "rails"))] = some w ∧ IsWord (fastV d g) (List.replicate k (.str "rails")) w := by
  have mem : cmpI .isin (.str "rails") (.tup [.str "rails"]) = some true := by kernel_rfl
  exact word_ok (by simp [fast_nr h]) rfl (by simpa using hk) fun x hx => by
    rw [List.eq_of_mem_replicate hx]
    exact ⟨⟨_, rfl, mem, _, fast_kd h, st_fast h⟩⟩
theorem fast_deed {d : Int} {g : Nat} (h : DGn d g) {k : Nat} {w : IV} (hw : IsWord (fastV d g) (List.replicate k (.str "rails")) w) : p_deed_of [w] = some ((Dd.of 0 0 g).enc g) := by
  have hg : (0 : Int) < g := by rcases h with ⟨rfl, rfl⟩ | ⟨rfl, rfl⟩ | ⟨rfl, rfl⟩ <;> decide
  have get : dgetI (.inr "rails") [.str "rails"] [(Dd.of 0 0 g).enc g] = some ((Dd.of 0 0 g).enc g) := by kernel_rfl
  have nrr : ∀ k : Nat, noRefs (List.replicate k (IV.str "rails")) = true := fun k => nr_rep rfl k
  have e0 : Dd.ok g (.of 0 0 g) := ⟨by omega, by omega, by omega, by omega, by omega, by omega, by omega, by omega⟩
  have q := deed_of_ok (dd := fun _ => .of 0 0 g) h.dg.gr (show noRefs [fastK g] = true by simp [fast_nr h]) (show noRefs [IV.str "rails"] = true from rfl) (dk := [.str "rails"]) (dv := [(Dd.of 0 0 g).enc g]) rfl (by simp [noRef_enc]) (nrr k) (fast_deeds h) (fun x hx => by
    rw [List.eq_of_mem_replicate hx]
    exact ⟨_, rfl, get, e0⟩) hw
  rw [q, List.map_replicate, fold_E hg]
/-! ### deeds compared -/
theorem eq_self {g : Int} {x : Dd} : p_Deed___eq__ [x.enc g, x.enc g] = some (.bl true) := by
  cases x with
  | lost =>
    have e : cmpI .eq (.tup [.int g, .int 2, .tpx []]) (.tup [.int g, .int 2, .tpx []]) = some true := by
      simp [cmpI, eqI, pd, pds, SeqAt.shaped, PyData.canLay0, PyData.canLayAll0, PyData.depth, PyData.depthAll, PyData.eqv, PyData.eqvAll]
    simp [p_Deed___eq__, mf_Deed___eq__, pureM, bodyM, m_Deed___eq__, Dd.enc, DL, kt_Deed, ktT, e]
  | of y x z =>
    have e : cmpI .eq (.tup [.int g, .int 2, .tpx [.tpx [.int 0, .int y], .tpx [.int x, .int z]]]) (.tup [.int g, .int 2, .tpx [.tpx [.int 0, .int y], .tpx [.int x, .int z]]]) = some true := by
      simp [cmpI, eqI, pd, pds, SeqAt.shaped, PyData.canLay0, PyData.canLayAll0, PyData.depth, PyData.depthAll, PyData.eqv, PyData.eqvAll]
    simp [p_Deed___eq__, mf_Deed___eq__, pureM, bodyM, m_Deed___eq__, Dd.enc, D, kt_Deed, ktT, e]
theorem ne_rows_own {x : Dd} : cmpI .ne (view [] (rowsI x)) (view [] (lawI x)) = some false := by
  cases x with
  | lost => kernel_rfl
  | of y x z => simp [rowsI, lawI, cmpI, notO, eqI, pd, pds, SeqAt.shaped, PyData.canLay0, PyData.canLayAll0, PyData.depth, PyData.depthAll, PyData.eqv, PyData.eqvAll]
/-! ### rows shown -/
def shB (x y : IV) (h : IH) : Bool := match bRepr [x] h with
  | .ok (.str s) _ => (match bRepr [y] h with
    | .ok (.str t) _ => (match cmpI .ne (.str s) (.str t) with
      | some b => !b
      | none => false)
    | _ => false)
  | _ => false
/-- a text of plain signs, not too long -/
def OkS (n : Nat) (s : Str) : Prop := PyData.strOk s = true ∧ s.length ≤ n
theorem OkS.app {n m : Nat} {s t : Str} (a : OkS n s) (b : OkS m t) : OkS (n + m) (s ++ t) := by
  refine ⟨?_, by rw [Str.length_append]; exact Nat.add_le_add a.2 b.2⟩
  have h1 := a.1
  have h2 := b.1
  unfold PyData.strOk at h1 h2 ⊢
  rw [Str.cps_append, Array.all_append, h1, h2]
  rfl
theorem okS_int {i : Nat} (h : i < 13) : OkS 2 (toString (i : Int) : String) := by
  match i, h with
  | 0, _ => exact ⟨by kernel_rfl, by decide⟩
  | 1, _ => exact ⟨by kernel_rfl, by decide⟩
  | 2, _ => exact ⟨by kernel_rfl, by decide⟩
  | 3, _ => exact ⟨by kernel_rfl, by decide⟩
  | 4, _ => exact ⟨by kernel_rfl, by decide⟩
  | 5, _ => exact ⟨by kernel_rfl, by decide⟩
  | 6, _ => exact ⟨by kernel_rfl, by decide⟩
  | 7, _ => exact ⟨by kernel_rfl, by decide⟩
  | 8, _ => exact ⟨by kernel_rfl, by decide⟩
  | 9, _ => exact ⟨by kernel_rfl, by decide⟩
  | 10, _ => exact ⟨by kernel_rfl, by decide⟩
  | 11, _ => exact ⟨by kernel_rfl, by decide⟩
  | 12, _ => exact ⟨by kernel_rfl, by decide⟩
  | k + 13, h => omega
theorem okS_lit1 : OkS 1 ("(" : Str) := ⟨by kernel_rfl, by decide⟩
theorem okS_lit2 : OkS 1 (")" : Str) := ⟨by kernel_rfl, by decide⟩
theorem okS_lit3 : OkS 2 (", " : Str) := ⟨by kernel_rfl, by decide⟩
theorem okS_two {n m : Nat} {s t : Str} (a : OkS n s) (b : OkS m t) : OkS (1 + (n + 2 + m) + 1) (tupleText [s, t]) := by
  have e : tupleText [s, t] = ("(" : Str) ++ (s ++ ", " ++ t) ++ (")" : Str) := rfl
  rw [e]
  exact (okS_lit1.app ((a.app okS_lit3).app b)).app okS_lit2
theorem okS_rows {y x z : Nat} (hy : y < 13) (hx : x < 13) (hz : z < 13) : OkS 40 (PyData.tuple [.tuple [.int 0, .int y], .tuple [.int x, .int z]]).shown := by
  have q := okS_two (okS_two (okS_int (i := 0) (by decide)) (okS_int hy)) (okS_two (okS_int hx) (okS_int hz))
  exact ⟨q.1, Nat.le_trans q.2 (by decide)⟩
theorem small_log {i : Nat} (h : i < 13) : ((i : Int).natAbs.log2 < 1920) := by
  rw [Int.natAbs_natCast]
  exact Nat.lt_of_le_of_lt (Nat.log2_le_self i) (by omega)
theorem shown_self {y x z : Nat} (hy : y < 13) (hx : x < 13) (hz : z < 13) : shB (rowsI (.of y x z)) (rowsI (.of y x z)) [] = true := by
  have ok := okS_rows hy hx hz
  have l : (PyData.tuple [.tuple [.int 0, .int y], .tuple [.int x, .int z]]).shown.length ≤ sizeLine := by rw [sz_eq]; exact Nat.le_trans ok.2 (by decide)
  have sb : (PyData.tuple [.tuple [.int 0, .int y], .tuple [.int x, .int z]]).showable = true := by
    simp only [PyData.showable, PyData.showableAll, small_log hy, small_log hx, small_log hz, decide_true, Bool.and_true]
    decide
  have hd : (PyData.tuple [.tuple [.int 0, .int y], .tuple [.int x, .int z]]).hasDict = false := by simp [PyData.hasDict, PyData.hasDictAll]
  have dp : (PyData.tuple [.tuple [.int 0, .int y], .tuple [.int x, .int z]]).depth ≤ 8 := by simp [PyData.depth, PyData.depthAll]
  have r : bRepr [rowsI (.of y x z)] [] = .ok (.str (PyData.tuple [.tuple [.int 0, .int y], .tuple [.int x, .int z]]).shown) [] := by
    have p : pd (view [] (rowsI (.of y x z))) = some (PyData.tuple [.tuple [.int 0, .int y], .tuple [.int x, .int z]]) := rfl
    have sk : skI (view [] (rowsI (.of y x z))) = some [.tpx [.int 0, .int y], .tpx [.int x, .int z]] := rfl
    unfold bRepr
    show (match skI (view [] (rowsI (.of y x z))), pd (view [] (rowsI (.of y x z))) with
      | some _, some d => if d.showable = true ∧ d.hasDict = false ∧ d.depth ≤ 8 ∧ d.shown.length ≤ sizeLine then Res.ok (IV.str d.shown) [] else .bad
      | _, _ => .bad) = _
    rw [p, sk]
    exact if_pos ⟨sb, hd, dp, l⟩
  generalize (PyData.tuple [.tuple [.int 0, .int y], .tuple [.int x, .int z]]).shown = s at r ok
  have c : cmpI .ne (.str s) (.str s) = some false := by
    have o := ok.1
    simp [cmpI, notO, eqI, pd, SeqAt.shaped, PyData.canLay0, PyData.depth, PyData.eqv, o]
  unfold shB
  rw [r]
  simp only [c]
  rfl
theorem shown_lost : shB (.tpx []) (.tup []) [] = true := by kernel_rfl
theorem shown_str : (allB 7 fun z => shB (rowsI (.of 0 0 z)) (.tup [.tup [.int 0, .int 0], .tup [.int 0, .int z]]) []) = true := by kernel_rfl
end L22

/-! P22r: the law's statements. -/
namespace L22
open PySem Iv L2
theorem draw_eq : mf__law_draw = mf_draw := rfl
theorem pen_eq : mf__law_pen = mf_pen := rfl
/-- one turn's numbers -/
structure Tn (d : Int) (g f l b a : Nat) : Prop where
  dg : DGn d g
  f : f < g + 3
  l : l < g + 3
  b : b < g + 2
  a : a < g + 2
section
variable {d : Int} {g f l b a : Nat}
theorem Tn.g6 (t : Tn d g f l b a) : g ≤ 6 := fast_g t.dg
theorem Tn.g0 (t : Tn d g f l b a) : (0 : Int) < g := by rcases t.dg with ⟨_, rfl⟩ | ⟨_, rfl⟩ | ⟨_, rfl⟩ <;> decide
theorem Tn.f9 (t : Tn d g f l b a) : f < 9 := by have := t.g6; have := t.f; omega
theorem Tn.l9 (t : Tn d g f l b a) : l < 9 := by have := t.g6; have := t.l; omega
theorem Tn.b8 (t : Tn d g f l b a) : b < 8 := by have := t.g6; have := t.b; omega
theorem Tn.a8 (t : Tn d g f l b a) : a < 8 := by have := t.g6; have := t.a; omega
theorem Tn.rR (t : Tn d g f l b a) : RowsOk g (railsV f l) (rDd g f l 0 0) := by
  rcases t.dg with ⟨_, rfl⟩ | ⟨_, rfl⟩ | ⟨_, rfl⟩
  · exact isD_ok (allB_at (chkR1 t.f) t.l)
  · exact isD_ok (allB_at (chkR3 t.f) t.l)
  · exact isD_ok (allB_at (chkR6 t.f) t.l)
theorem chkS_at {g n b : Nat} (h : chkS g n = true) (hb : b < n) : RowsOk g (lowV b) (strD g b) ∧ RowsOk g (highV b) (strD g b) := by
  have q := allB_at h hb
  simp only [Bool.and_eq_true] at q
  exact ⟨isD_ok q.1, isD_ok q.2⟩
theorem Tn.rL (t : Tn d g f l b a) : RowsOk g (lowV b) (strD g b) := by
  rcases t.dg with ⟨_, rfl⟩ | ⟨_, rfl⟩ | ⟨_, rfl⟩
  · exact (chkS_at chkS1 t.b).1
  · exact (chkS_at chkS3 t.b).1
  · exact (chkS_at chkS6 t.b).1
theorem Tn.rH (t : Tn d g f l b a) : RowsOk g (highV a) (strD g a) := by
  rcases t.dg with ⟨_, rfl⟩ | ⟨_, rfl⟩ | ⟨_, rfl⟩
  · exact (chkS_at chkS1 t.a).2
  · exact (chkS_at chkS3 t.a).2
  · exact (chkS_at chkS6 t.a).2
theorem Tn.rX (t : Tn d g f l b a) : RowsOk g crossV (.of 0 0 g) := by
  rcases t.dg with ⟨_, rfl⟩ | ⟨_, rfl⟩ | ⟨_, rfl⟩
  · exact isD_ok chkX1
  · exact isD_ok chkX3
  · exact isD_ok chkX6
def ownX (f l b a : Nat) : IV := .tup [plR f l, plS "low" b, plS "high" a, plX]
theorem ownX_nr : noRef (ownX f l b a) = true := by
  have nr := nr_rsR (f := f) (l := l)
  have nr2 := nr_rsS (k := b)
  have nr3 := nr_rsS (k := a)
  simp [ownX, plR, plS, plX, nr, nr2, nr3]
theorem Tn.oR (t : Tn d g f l b a) : OwnRows d (ownX f l b a) (plR f l) (rDd g f l 0 0) := by
  rcases t.dg with ⟨rfl, rfl⟩ | ⟨rfl, rfl⟩ | ⟨rfl, rfl⟩
  · exact own_rows (.inl ⟨rfl, rfl⟩) ownX_nr (allB_at (own_R1 _ t.f) t.l)
  · exact own_rows (.inr (.inl ⟨rfl, rfl⟩)) ownX_nr (allB_at (own_R3 _ t.f) t.l)
  · exact own_rows (.inr (.inr ⟨rfl, rfl⟩)) ownX_nr (allB_at (own_R6 _ t.f) t.l)
theorem Tn.oS (t : Tn d g f l b a) : OwnRows d (ownX f l b a) (plS "low" b) (strD g b) ∧ OwnRows d (ownX f l b a) (plS "high" a) (strD g a) := by
  rcases t.dg with ⟨rfl, rfl⟩ | ⟨rfl, rfl⟩ | ⟨rfl, rfl⟩
  · have p := allB_at (own_S1 (ownX f l b a)) t.b
    have q := allB_at (own_S1 (ownX f l b a)) t.a
    simp only [Bool.and_eq_true] at p q
    exact ⟨own_rows (.inl ⟨rfl, rfl⟩) ownX_nr p.1, own_rows (.inl ⟨rfl, rfl⟩) ownX_nr q.2⟩
  · have p := allB_at (own_S3 (ownX f l b a)) t.b
    have q := allB_at (own_S3 (ownX f l b a)) t.a
    simp only [Bool.and_eq_true] at p q
    exact ⟨own_rows (.inr (.inl ⟨rfl, rfl⟩)) ownX_nr p.1, own_rows (.inr (.inl ⟨rfl, rfl⟩)) ownX_nr q.2⟩
  · have p := allB_at (own_S6 (ownX f l b a)) t.b
    have q := allB_at (own_S6 (ownX f l b a)) t.a
    simp only [Bool.and_eq_true] at p q
    exact ⟨own_rows (.inr (.inr ⟨rfl, rfl⟩)) ownX_nr p.1, own_rows (.inr (.inr ⟨rfl, rfl⟩)) ownX_nr q.2⟩
theorem Tn.oX (t : Tn d g f l b a) : OwnRows d (ownX f l b a) plX (.of 0 0 g) := by
  rcases t.dg with ⟨rfl, rfl⟩ | ⟨rfl, rfl⟩ | ⟨rfl, rfl⟩
  · exact own_rows (.inl ⟨rfl, rfl⟩) ownX_nr (own_X1 _)
  · exact own_rows (.inr (.inl ⟨rfl, rfl⟩)) ownX_nr (own_X3 _)
  · exact own_rows (.inr (.inr ⟨rfl, rfl⟩)) ownX_nr (own_X6 _)
abbrev Tn.dd (g f l b a : Nat) : IV → Dd := ddOf (rDd g f l 0 0) (strD g b) (strD g a) (.of 0 0 g)
theorem Tn.kds (t : Tn d g f l b a) : p_kind_deeds [kitK d g f l b a] = some (.dic nm4 [(rDd g f l 0 0).enc g, (strD g b).enc g, (strD g a).enc g, (Dd.of 0 0 g).enc g]) := kind_deeds_ok t.rR t.rL t.rH t.rX
theorem Tn.E_ok (t : Tn d g f l b a) : Dd.ok g (.of 0 0 g) := by have := t.g0; exact ⟨by omega, by omega, by omega, by omega, by omega, by omega, by omega, by omega⟩
theorem nm4_nr {names : List IV} (h : ∀ x ∈ names, x ∈ nm4) : noRefs names = true := by
  induction names with
  | nil => rfl
  | cons a r ih =>
    have ha := h a List.mem_cons_self
    have hr := ih fun x hx => h x (List.mem_cons_of_mem _ hx)
    simp only [nm4, List.mem_cons, List.not_mem_nil, or_false] at ha
    rcases ha with rfl | rfl | rfl | rfl <;> simp [hr]
theorem Tn.deed (t : Tn d g f l b a) {names : List IV} {w : IV} (h : ∀ x ∈ names, x ∈ nm4) (hw : IsWord (kitK d g f l b a) names w) : p_deed_of [w] = some ((foldD g (names.map (Tn.dd g f l b a))).enc g) :=
  deed_of_ok t.dg.dg.gr nks rfl (show noRefs nm4 = true from rfl) (by simp [noRef_enc]) (nm4_nr h) t.kds (fun x hx => get_ok (α := Unit) (P := fun x => x.ok g) (e := fun x => x.enc g) (rDd_ok t.g0 (by omega) (by omega)) (strD_ok t.g0 (by omega)) (strD_ok t.g0 (by omega)) t.E_ok (h x hx)) hw
theorem Tn.word (t : Tn d g f l b a) {names : List IV} (hn : names.length ≤ 60) (h : ∀ x ∈ names, x ∈ nm4) : ∃ w, k_Word___init__ [kitK d g f l b a, .lst names] = some w ∧ IsWord (kitK d g f l b a) names w :=
  word_kit t.f9 t.l9 t.b8 t.a8 hn h
theorem Tn.own (t : Tn d g f l b a) {names : List IV} (h : ∀ x ∈ names, x ∈ nm4) : p__law_ce_deed [plain d f l b a, .dic nm4 [lawI (rDd g f l 0 0), lawI (strD g b), lawI (strD g a), lawI (.of 0 0 g)], .tup names] = some (lawI (foldD g (names.map (Tn.dd g f l b a)))) :=
  own_deed (X := ownX f l b a) t.dg.dg ownX_nr (show noRefs nm4 = true from rfl) (by simp [noRef_lawI]) (nm4_nr h) fun x hx => by
    obtain ⟨s, e1, e2, _⟩ := get_ok (α := Unit) (P := fun _ => True) (e := lawI) (x1 := rDd g f l 0 0) (x2 := strD g b) (x3 := strD g a) (x4 := .of 0 0 g) trivial trivial trivial trivial (h x hx)
    exact ⟨s, e1, e2⟩
theorem Tn.steps (t : Tn d g f l b a) : p__law_ce_steps [plain d f l b a] = some (.dic nm4 [lawI (rDd g f l 0 0), lawI (strD g b), lawI (strD g a), lawI (.of 0 0 g)]) := own_steps t.oR t.oS.1 t.oS.2 t.oX
end
end L22

/-! P22s: the law's draws and kits. -/
namespace L22
open PySem Iv L2
variable {d : Int} {g f l b a : Nat} {k : Int} {h : IH} {e0 e2 e3 e4 e5 e6 e7 e8 e9 e10 e11 e12 e13 e14 e15 e16 e17 e18 : Option IV}
theorem draw1 (p : Pen k 0 h) (hk : k < 1000000) {m : Int} (hm : 0 < m) (hm2 : m < 1000000) : ∃ (x : Nat) (h' : IH), mf__law_draw [.ref 0, .int m] h = .ok (.int x) h' ∧ (x : Int) < m ∧ Pen (k + 1) 0 h' := by
  obtain ⟨x, h', e, x0, x1, p', _⟩ := p.draw (by omega) hm (by omega)
  obtain ⟨n, rfl⟩ := Int.eq_ofNat_of_zero_le x0
  exact ⟨n, h', e, x1, p'⟩
theorem pick3 (p : Pen k 0 h) (hk : k < 1000000) : ∃ (x : Nat) (h' : IH), mf__law_pick [.ref 0, .lst [.int 1, .int 2, .int 3]] h = .ok (.int (x + 1)) h' ∧ x < 3 ∧ Pen (k + 1) 0 h' := by
  obtain ⟨x, h', e, x1, p'⟩ := draw1 p hk (m := 3) (by decide) (by decide)
  refine ⟨x, h', ?_, by omega, p'⟩
  have q : atI [IV.int 1, IV.int 2, IV.int 3] (x : Int) = some (.int (x + 1)) := by
    match x, x1 with
    | 0, _ => rfl
    | 1, _ => rfl
    | 2, _ => rfl
    | n + 3, h => omega
  simp [mf__law_pick, bodyM, m__law_pick, e, q]
theorem s3_ok (p : Pen k 0 h) (hk : k < 1000000) : ∃ (x : Nat) (h' : IH), m_law_3 [e0, some (.ref 0), e2, e3, e4, e5, e6, e7, e8, e9, e10, e11, e12, e13, e14, e15, e16, e17, e18] h =
    .ok (.nx, [e0, some (.ref 0), e2, some (.int (x + 1)), e4, e5, e6, e7, e8, e9, e10, e11, e12, e13, e14, e15, e16, e17, e18]) h' ∧ x < 3 ∧ Pen (k + 1) 0 h' := by
  obtain ⟨x, h', e, hx, p'⟩ := pick3 p hk
  exact ⟨x, h', by simp [m_law_3, e], hx, p'⟩
theorem s4_ok (t : DGn d g) : m_law_4 [e0, some (.ref 0), e2, some (.int d), e4, e5, e6, e7, e8, e9, e10, e11, e12, e13, e14, e15, e16, e17, e18] h =
    .ok (.nx, [e0, some (.ref 0), e2, some (.int d), some (.int g), e5, e6, e7, e8, e9, e10, e11, e12, e13, e14, e15, e16, e17, e18]) h := by
  have gx : atI [IV.int 0, IV.int 1, IV.int 3, IV.int 6] d = some (.int g) := by rcases t with ⟨rfl, rfl⟩ | ⟨rfl, rfl⟩ | ⟨rfl, rfl⟩ <;> kernel_rfl
  simp [m_law_4, gx]
theorem two_draws (p : Pen k 0 h) (hk : k < 900000) {c : Int} (hg : g ≤ 6) (hc : 0 < c) (hc2 : c < 1000) : ∃ (x y : Nat) (h' : IH), mLc (mRng1 (mC (.int 2))) (gN 18) [18] (mYes) (mCall 2 mf__law_draw [] (mCons (mVar 1) (mCons (mBin .add (mVar 4) (mC (.int c))) (mNil)))) [e0, some (.ref 0), e2, e3, some (.int g), e5, e6, e7, e8, e9, e10, e11, e12, e13, e14, e15, e16, e17, e18] h =
    .ok (.lst [.int x, .int y]) h' ∧ (x : Int) < g + c ∧ (y : Int) < g + c ∧ Pen (k + 2) 0 h' := by
  obtain ⟨x, h1, e1, hx, p1⟩ := draw1 p (by omega) (m := g + c) (by omega) (by omega)
  obtain ⟨y, h2, e2', hy, p2⟩ := draw1 p1 (by omega) (m := g + c) (by omega) (by omega)
  refine ⟨x, y, h2, ?_, hx, hy, by rw [show k + 2 = k + 1 + 1 by omega]; exact p2⟩
  simp [rngI, List.range, List.range.loop, e1, e2']
theorem s5_ok (p : Pen k 0 h) (hk : k < 900000) (hg : g ≤ 6) : ∃ (x y : Nat) (h' : IH), m_law_5 [e0, some (.ref 0), e2, e3, some (.int g), e5, e6, e7, e8, e9, e10, e11, e12, e13, e14, e15, e16, e17, e18] h =
    .ok (.nx, [e0, some (.ref 0), e2, e3, some (.int g), some (.int x), some (.int y), e7, e8, e9, e10, e11, e12, e13, e14, e15, e16, e17, e18]) h' ∧ x < g + 3 ∧ y < g + 3 ∧ Pen (k + 2) 0 h' := by
  obtain ⟨x, y, h', e, hx, hy, p'⟩ := two_draws (e0 := e0) (e2 := e2) (e3 := e3) (e5 := e5) (e6 := e6) (e7 := e7) (e8 := e8) (e9 := e9) (e10 := e10) (e11 := e11) (e12 := e12) (e13 := e13) (e14 := e14) (e15 := e15) (e16 := e16) (e17 := e17) (e18 := e18) p hk hg (c := 3) (by decide) (by decide)
  refine ⟨x, y, h', ?_, by omega, by omega, p'⟩
  rw [m_law_5, e_mAsg, e]
  simp
theorem s6_ok (p : Pen k 0 h) (hk : k < 900000) (hg : g ≤ 6) : ∃ (x y : Nat) (h' : IH), m_law_6 [e0, some (.ref 0), e2, e3, some (.int g), e5, e6, e7, e8, e9, e10, e11, e12, e13, e14, e15, e16, e17, e18] h =
    .ok (.nx, [e0, some (.ref 0), e2, e3, some (.int g), e5, e6, some (.int x), some (.int y), e9, e10, e11, e12, e13, e14, e15, e16, e17, e18]) h' ∧ x < g + 2 ∧ y < g + 2 ∧ Pen (k + 2) 0 h' := by
  obtain ⟨x, y, h', e, hx, hy, p'⟩ := two_draws (e0 := e0) (e2 := e2) (e3 := e3) (e5 := e5) (e6 := e6) (e7 := e7) (e8 := e8) (e9 := e9) (e10 := e10) (e11 := e11) (e12 := e12) (e13 := e13) (e14 := e14) (e15 := e15) (e16 := e16) (e17 := e17) (e18 := e18) p hk hg (c := 2) (by decide) (by decide)
  refine ⟨x, y, h', ?_, by omega, by omega, p'⟩
  rw [m_law_6, e_mAsg, e]
  simp
theorem mul_rep {env : Iv.Env} {h h1 : IH} {fa fb : Mv} {x : IV} {k : Nat} (ha : fa env h = .ok (.lst [x]) h) (hb : fb env h = .ok (.int k) h1) (hk : k ≤ 1000) : mBin .mul fa fb env h = .ok (.lst (List.replicate k x)) h1 := by
  rw [e_mBin, ha, rbind_ok, hb, rbind_ok, view_lst, view_int, mulL hk]
  rfl
theorem nr_plR : noRef (plR f l) = true := by have nr := nr_rsR (f := f) (l := l); simp [plR, nr]
theorem nr_plS {n : Str} : noRef (plS n b) = true := by have nr := nr_rsS (k := b); simp [plS, nr]
theorem nr_plain : noRef (plain d f l b a) = true := by
  simp only [plain, e_nrTup, e_nrCons, e_nrInt, e_nrNil, nr_plR, nr_plS, Bool.true_and]
  rfl
theorem s9_ok (t : Tn d g f l b a) : m_law_9 [e0, some (.ref 0), e2, some (.int d), some (.int g), some (.int f), some (.int l), some (.int b), some (.int a), e9, e10, some (plain d f l b a), e12, e13, e14, e15, e16, e17, e18] h =
    .ok (.nx, [e0, some (.ref 0), e2, some (.int d), some (.int g), some (.int f), some (.int l), some (.int b), some (.int a), e9, e10, some (plain d f l b a), some (kitK d g f l b a), e13, e14, e15, e16, e17, e18]) h := by
  have m := made_kit (f := f) (l := l) (b := b) (a := a) t.dg.dg t.f9 t.l9 t.b8 t.a8
  unfold m_law_9
  generalize p__law_ce_made = T at m ⊢
  simp [m, nr_plain]
/-- what is due -/
def dueV (g f l b a : Nat) : IV := if (f : Int) + l < g then .tup [] else rowsV g f l b a
theorem s10_ok (t : Tn d g f l b a) : m_law_10 [e0, some (.ref 0), e2, some (.int d), some (.int g), some (.int f), some (.int l), some (.int b), some (.int a), e9, e10, e11, e12, e13, e14, e15, e16, e17, e18] h =
    .ok (.nx, [e0, some (.ref 0), e2, some (.int d), some (.int g), some (.int f), some (.int l), some (.int b), some (.int a), e9, e10, e11, e12, some (dueV g f l b a), e14, e15, e16, e17, e18]) h := by
  have r := rails_due t.dg.dg.gr f l b a
  unfold dueV
  split at r <;> rename_i q
  · simp [m_law_10, r, q]
  · simp [m_law_10, r, q]
end L22

/-! P22u: the law's plain kit. -/
namespace L22
open PySem Iv L2
variable {d : Int} {g f l b a : Nat} {k : Int} {h : IH} {e0 e2 e3 e4 e5 e6 e7 e8 e9 e10 e11 e12 e13 e14 e15 e16 e17 e18 : Option IV}
theorem tt8 {R T : List IV → Option IV} (r : R [.str "rails", .lst [.int f, .int l]] = some (plR f l)) (c : T [.str "cross", .lst [.int 1, .int 0], .lst []] = some plX) : mTup (mCons (mCallP 2 R [] (mCons (mC (.str "rails")) (mCons (mLst (mCons (mVar 5) (mCons (mVar 6) (mNil)))) (mNil)))) (mCons (mVar 9) (mCons (mVar 10) (mCons (mCallP 3 T [] (mCons (mC (.str "cross")) (mCons (mLst (mCons (mC (.int 1)) (mCons (mC (.int 0)) (mNil)))) (mCons (mLst (mNil)) (mNil))))) (mNil))))) [e0, some (.ref 0), e2, some (.int d), some (.int g), some (.int f), some (.int l), some (.int b), some (.int a), some (plS "low" b), some (plS "high" a), e11, e12, e13, e14, e15, e16, e17, e18] h = .ok (.tup [plR f l, plS "low" b, plS "high" a, plX]) h := by simp [r, c]
theorem tt9 {I : Mv} {x : IV} (q : I [e0, some (.ref 0), e2, some (.int d), some (.int g), some (.int f), some (.int l), some (.int b), some (.int a), some (plS "low" b), some (plS "high" a), e11, e12, e13, e14, e15, e16, e17, e18] h = .ok x h) : mSet 11 (mTup (mCons (mVar 3) (mCons (mC (.int 2)) (mCons I (mNil))))) [e0, some (.ref 0), e2, some (.int d), some (.int g), some (.int f), some (.int l), some (.int b), some (.int a), some (plS "low" b), some (plS "high" a), e11, e12, e13, e14, e15, e16, e17, e18] h = .ok (.nx, [e0, some (.ref 0), e2, some (.int d), some (.int g), some (.int f), some (.int l), some (.int b), some (.int a), some (plS "low" b), some (plS "high" a), some (.tup [.int d, .int 2, x]), e12, e13, e14, e15, e16, e17, e18]) h := by
  simp [q]

theorem s8_ok (t : Tn d g f l b a) : m_law_8 [e0, some (.ref 0), e2, some (.int d), some (.int g), some (.int f), some (.int l), some (.int b), some (.int a), some (plS "low" b), some (plS "high" a), e11, e12, e13, e14, e15, e16, e17, e18] h =
    .ok (.nx, [e0, some (.ref 0), e2, some (.int d), some (.int g), some (.int f), some (.int l), some (.int b), some (.int a), some (plS "low" b), some (plS "high" a), some (plain d f l b a), e12, e13, e14, e15, e16, e17, e18]) h :=
  tt9 (tt8 (rails_plain t.f9 t.l9) through_cross)
theorem tt10 {T : List IV → Option IV} {M : Mv} {xs : List IV} {v : IV} (hn : noRefs xs = true) (q : M [e0, some (.ref 0), e2, some (.int d), some (.int g), some (.int f), some (.int l), some (.int b), some (.int a), e9, e10, e11, e12, e13, e14, e15, e16, e17, e18] h = .ok (.lst xs) h) (c : T [.str "low", .lst [.int 0, .int 1], .lst xs] = some v) : mCallP 3 T [] (mCons (mC (.str "low")) (mCons (mLst (mCons (mC (.int 0)) (mCons (mC (.int 1)) (mNil)))) (mCons M (mNil)))) [e0, some (.ref 0), e2, some (.int d), some (.int g), some (.int f), some (.int l), some (.int b), some (.int a), e9, e10, e11, e12, e13, e14, e15, e16, e17, e18] h = .ok v h := by simp [q, c, hn]
theorem tt11 {T : List IV → Option IV} {M : Mv} {xs : List IV} {v : IV} (hn : noRefs xs = true) (q : M [e0, some (.ref 0), e2, some (.int d), some (.int g), some (.int f), some (.int l), some (.int b), some (.int a), e9, e10, e11, e12, e13, e14, e15, e16, e17, e18] h = .ok (.lst xs) h) (c : T [.str "high", .lst [.int 0, .int 1], .lst xs] = some v) : mCallP 3 T [] (mCons (mC (.str "high")) (mCons (mLst (mCons (mC (.int 0)) (mCons (mC (.int 1)) (mNil)))) (mCons M (mNil)))) [e0, some (.ref 0), e2, some (.int d), some (.int g), some (.int f), some (.int l), some (.int b), some (.int a), e9, e10, e11, e12, e13, e14, e15, e16, e17, e18] h = .ok v h := by simp [q, c, hn]
theorem tt12 {I J : Mv} {x y : IV} (q : I [e0, some (.ref 0), e2, some (.int d), some (.int g), some (.int f), some (.int l), some (.int b), some (.int a), e9, e10, e11, e12, e13, e14, e15, e16, e17, e18] h = .ok x h) (r : J [e0, some (.ref 0), e2, some (.int d), some (.int g), some (.int f), some (.int l), some (.int b), some (.int a), e9, e10, e11, e12, e13, e14, e15, e16, e17, e18] h = .ok y h) : mPar 9 10 (mCons I (mCons J mNil)) [e0, some (.ref 0), e2, some (.int d), some (.int g), some (.int f), some (.int l), some (.int b), some (.int a), e9, e10, e11, e12, e13, e14, e15, e16, e17, e18] h = .ok (.nx, [e0, some (.ref 0), e2, some (.int d), some (.int g), some (.int f), some (.int l), some (.int b), some (.int a), some x, some y, e11, e12, e13, e14, e15, e16, e17, e18]) h := by
  simp [q, r]
theorem s7_m {v : Nat} {k : Nat} (hv : mVar v [e0, some (.ref 0), e2, some (.int d), some (.int g), some (.int f), some (.int l), some (.int b), some (.int a), e9, e10, e11, e12, e13, e14, e15, e16, e17, e18] h = .ok (.int k) h) (hk : k ≤ 1000) : (mBin .mul (mLst (mCons (mTup (mCons (mC (.int 0)) (mCons (mC (.int 1)) (mNil)))) (mNil))) (mVar v)) [e0, some (.ref 0), e2, some (.int d), some (.int g), some (.int f), some (.int l), some (.int b), some (.int a), e9, e10, e11, e12, e13, e14, e15, e16, e17, e18] h = .ok (.lst (List.replicate k v01)) h := mul_rep (by simp [v01]) hv hk
theorem s7_ok (t : Tn d g f l b a) : m_law_7 [e0, some (.ref 0), e2, some (.int d), some (.int g), some (.int f), some (.int l), some (.int b), some (.int a), e9, e10, e11, e12, e13, e14, e15, e16, e17, e18] h =
    .ok (.nx, [e0, some (.ref 0), e2, some (.int d), some (.int g), some (.int f), some (.int l), some (.int b), some (.int a), some (plS "low" b), some (plS "high" a), e11, e12, e13, e14, e15, e16, e17, e18]) h :=
  tt12 (tt10 (nr_rep rfl b) (s7_m (by simp) (by have := t.b8; omega)) (through_low t.b8)) (tt11 (nr_rep rfl a) (s7_m (by simp) (by have := t.a8; omega)) (through_high t.a8))
end L22

/-! P22t: the law's tests, in general form. -/
namespace L22
open PySem Iv L2
section
variable {env : Iv.Env} {h h1 h2 : IH} {A B N V : Mv} {t u : Mb} {S : Ms} {x y kit w : IV} {names : List IV} {W P : List IV → Option IV}
theorem dw1 (hV : V env h = .ok kit h) (hN : N env h = .ok (.lst names) h1) (nk : noRef kit = true) (nn : noRefs names = true) (hW : W [kit, .lst names] = some w) (nw : noRef w = true) (hP : P [w] = some x) :
    mCallP 1 P [] (mCons (mMake 3 W [] (mCons V (mCons N mNil))) mNil) env h = .ok x h1 := by simp [hV, hN, nk, nn, hW, nw, hP]
theorem mk1 (hV : V env h = .ok kit h) (hN : N env h = .ok (.lst names) h1) (nk : noRef kit = true) (nn : noRefs names = true) (hW : W [kit, .lst names] = some w) :
    mMake 3 W [] (mCons V (mCons N mNil)) env h = .ok w h1 := by simp [hV, hN, nk, nn, hW]
theorem fld12 {g : Int} {z : Dd} (hA : A env h = .ok (z.enc g) h1) : mFld 12 A env h = .ok (rowsI z) h1 := by
  rw [e_mFld, hA, rbind_ok]
  cases z <;> simp [Dd.enc, DL, D, look, rowsI]
theorem cmp_no (hA : A env h = .ok x h1) (hB : B env h1 = .ok y h2) (c : cmpI .ne (view h2 x) (view h2 y) = some false) : mCmpB .ne A B env h = .ok false h2 := by
  rw [e_mCmpB, hA, rbind_ok, hB, rbind_ok, c]
  rfl
theorem or_no (ht : t env h = .ok false h1) (hu : u env h1 = .ok false h2) : mOr t u env h = .ok false h2 := by
  rw [e_mOr, ht, rbind_ok]
  simp [hu]
theorem if_no (ht : t env h = .ok false h1) : mIfS t S mNx env h = .ok (.nx, env) h1 := by
  rw [e_mIfS, ht, rbind_ok]
  simp
theorem own_no {g : Int} {z : Dd} (hA : A env h = .ok (z.enc g) h1) (hB : B env h1 = .ok (z.enc g) h2) : mOwn 3 p_Deed___eq__ (!·) A B env h = .ok false h2 := by
  rw [e_mOwn, hA, rbind_ok, hB, rbind_ok]
  have e := eq_self (g := g) (x := z)
  have n := noRef_enc (g := g) (x := z)
  cases z with
  | lost =>
    simp only [Dd.enc, DL] at e n ⊢
    simp [e, blI]
  | of y x z =>
    simp only [Dd.enc, D] at e n ⊢
    simp [e, blI]
theorem repr_at {x : IV} (hx : ∀ h, view h x = view [] x) (h : IH) : bRepr [x] h = match bRepr [x] [] with
    | .ok v _ => .ok v h
    | .bad => .bad := by
  unfold bRepr
  simp only [hx h]
  split
  · split <;> rfl
  · rfl
theorem repr_no (hA : A env h = .ok x h1) (hB : B env h1 = .ok y h2) (hx : ∀ h, view h x = view [] x) (hy : ∀ h, view h y = view [] y) (c : shB x y [] = true) : mCmpB .ne (mBf bRepr (mCons A mNil)) (mBf bRepr (mCons B mNil)) env h = .ok false h2 := by
  have ex := repr_at hx h1
  have ey := repr_at hy h2
  unfold shB at c
  split at c
  · rename_i s hs e1
    split at c
    · rename_i s2 hs2 e2
      split at c
      · rename_i b e3
        rw [e1] at ex
        rw [e2] at ey
        have b0 : b = false := by simpa using c
        subst b0
        simp [hA, hB, ex, ey, e3]
      · cases c
    · cases c
  · cases c
theorem callP_at {vs : List IV} {M : Ma} (hM : M env h = .ok vs h1) {n : Nat} (hl : vs.length = n) (nr : noRefs vs = true) (hP : P vs = some x) : mCallP n P [] M env h = .ok x h1 := by
  rw [e_mCallP, hM, rbind_ok, List.append_nil, if_pos ⟨hl, nr⟩, hP]
  rfl
theorem not_tru (hA : A env h = .ok (.bl true) h1) : mNot (mTru A) env h = .ok false h1 := by
  simp [hA]
end
section
variable {d : Int} {g f l b a : Nat}
theorem view_rows {z : Dd} (h : IH) : view h (rowsI z) = view [] (rowsI z) := by cases z <;> rfl
theorem view_due (h : IH) : view h (dueV g f l b a) = view [] (dueV g f l b a) := by
  unfold dueV rowsV
  split <;> rfl
theorem due_rows (t : Tn d g f l b a) (hn : ¬ (f : Int) + l < g) : dueV g f l b a = rowsI (rDd g f l b a) := by
  have e0 : ent g f l b a false false = 0 := by rw [e00]; omega
  unfold dueV rDd
  rw [if_neg hn, if_neg hn, rowsV, e0]
  rfl
theorem rDd_steady (t : Tn d g f l b a) : (rDd g f l b a).ok g := by
  rw [← between t.g0 (by omega) (by omega) (by omega) (by omega)]
  exact put_steady (put_steady (put_steady t.E_ok (strD_ok t.g0 (by omega))) (rDd_ok t.g0 (by omega) (by omega))) (strD_ok t.g0 (by omega))
theorem due_shown (t : Tn d g f l b a) : shB (rowsI (rDd g f l b a)) (dueV g f l b a) [] = true := by
  by_cases hn : (f : Int) + l < g
  · unfold dueV rDd
    rw [if_pos hn, if_pos hn]
    exact shown_lost
  · rw [due_rows t hn]
    have st := rDd_steady t
    generalize rDd g f l b a = z at st ⊢
    cases z with
    | lost => kernel_rfl
    | of y x z =>
      obtain ⟨p1, p2, p3, p4, p5, p6, p7, p8⟩ := st
      have g6 := t.g6
      obtain ⟨y, rfl⟩ := Int.eq_ofNat_of_zero_le p1
      obtain ⟨x, rfl⟩ := Int.eq_ofNat_of_zero_le p3
      obtain ⟨z, rfl⟩ := Int.eq_ofNat_of_zero_le (show 0 ≤ z by omega)
      exact shown_self (show y < 13 by omega) (show x < 13 by omega) (show z < 13 by omega)
theorem rows_ne_due (t : Tn d g f l b a) : cmpI .ne (view [] (rowsI (rDd g f l 0 0))) (view [] (dueV g f l 0 0)) = some false := by
  by_cases hn : (f : Int) + l < g
  · unfold dueV rDd
    rw [if_pos hn, if_pos hn]
    kernel_rfl
  · have t0 : Tn d g f l 0 0 := ⟨t.dg, t.f, t.l, by omega, by omega⟩
    have e := due_rows t0 hn
    simp only [Int.natCast_zero] at e
    rw [show dueV g f l 0 0 = rowsI (rDd g f l 0 0) from e]
    have q := ne_rows_own (x := rDd g f l 0 0)
    have hq : lawI (rDd g f l 0 0) = rowsI (rDd g f l 0 0) := by
      unfold rDd
      rw [if_neg hn]
      rfl
    rw [hq] at q
    exact q
end
end L22

/-! P22v: the law's statements. -/
namespace L22
open PySem Iv L2
variable {d : Int} {g f l b a : Nat} {k : Int} {h : IH} {e0 e2 e3 e4 e5 e6 e7 e8 e9 e10 e11 e12 e13 e14 e15 e16 e17 e18 : Option IV}
theorem put_E {g : Int} {x : Dd} (hg : 0 < g) (hx : x.ok g) : put g (.of 0 0 g) x = x := by
  cases x with
  | lost => rfl
  | of y x z =>
    obtain ⟨p1, p2, p3, p4, p5, p6, p7, p8⟩ := hx
    simp only [put]
    rw [if_pos (by omega)]
    congr 1 <;> omega
theorem in0 : (IV.str "rails") ∈ nm4 := by simp [nm4]
theorem in1 : (IV.str "low") ∈ nm4 := by simp [nm4]
theorem in2 : (IV.str "high") ∈ nm4 := by simp [nm4]
theorem in3 : (IV.str "cross") ∈ nm4 := by simp [nm4]
theorem all1 {x : IV} (h : x ∈ nm4) : ∀ y ∈ [x], y ∈ nm4 := fun y hy => by
  rw [List.mem_singleton.mp hy]; exact h
theorem all2 {x y : IV} (h1 : x ∈ nm4) (h2 : y ∈ nm4) : ∀ z ∈ [x, y], z ∈ nm4 := fun z hz => by
  rcases List.mem_cons.mp hz with rfl | hz
  · exact h1
  · exact all1 h2 z hz
theorem all3 {x y w : IV} (h1 : x ∈ nm4) (h2 : y ∈ nm4) (h3 : w ∈ nm4) : ∀ z ∈ [x, y, w], z ∈ nm4 := fun z hz => by
  rcases List.mem_cons.mp hz with rfl | hz
  · exact h1
  · exact all2 h2 h3 z hz
theorem Tn.E (t : Tn d g f l b a) : (Dd.of 0 0 g : Dd) = strD g 0 := str0 t.g0
theorem Tn.Rok (t : Tn d g f l b a) : (rDd g f l 0 0).ok g := rDd_ok t.g0 (by omega) (by omega)
theorem Tn.Sok (t : Tn d g f l b a) : (strD g b).ok g := strD_ok t.g0 (by omega)
theorem nr_kit : noRef (kitK d g f l b a) = true := by
  rw [kitK_nm]
  simp [kitV, nr_rails, nr_low, nr_high, nr_cross]
  rfl
/-- a deed of a word of the kit -/
theorem Tn.dw (t : Tn d g f l b a) {env : Iv.Env} {h1 : IH} {V N : Mv} {names : List IV} (hV : V env h = .ok (kitK d g f l b a) h) (hN : N env h = .ok (.lst names) h1) (hn : names.length ≤ 60) (hm : ∀ x ∈ names, x ∈ nm4) :
    mCallP 1 p_deed_of [] (mCons (mMake 3 k_Word___init__ [] (mCons V (mCons N mNil))) mNil) env h = .ok ((foldD g (names.map (Tn.dd g f l b a))).enc g) h1 := by
  obtain ⟨w, e, hw⟩ := t.word hn hm
  have nw : noRef w = true := by obtain ⟨_, _, _, _, _, nr⟩ := hw; exact nr
  exact dw1 hV hN nr_kit (nm4_nr hm) e nw (t.deed hm hw)
theorem Tn.fold_lrh (t : Tn d g f l b a) : foldD g ([IV.str "low", IV.str "rails", IV.str "high"].map (Tn.dd g f l b a)) = rDd g f l b a := by
  rw [← between t.g0 (by omega) (by omega) (by omega) (by omega)]
  simp only [List.map_cons, List.map_nil, Tn.dd, dd0, dd1, dd2, foldD, List.foldl_cons, List.foldl_nil]
theorem Tn.fold_r (t : Tn d g f l b a) : foldD g ([IV.str "rails"].map (Tn.dd g f l b a)) = rDd g f l 0 0 := by
  simp only [List.map_cons, List.map_nil, Tn.dd, dd0, foldD, List.foldl_cons, List.foldl_nil]
  exact put_E t.g0 t.Rok
theorem Tn.fold_cr (t : Tn d g f l b a) : foldD g ([IV.str "cross", IV.str "rails"].map (Tn.dd g f l b a)) = rDd g f l 0 0 := by
  simp only [List.map_cons, List.map_nil, Tn.dd, dd0, dd3, foldD, List.foldl_cons, List.foldl_nil]
  rw [put_E t.g0 t.E_ok, put_E t.g0 t.Rok]
theorem Tn.fold_lc (t : Tn d g f l b a) : foldD g ([IV.str "low", IV.str "cross"].map (Tn.dd g f l b a)) = strD g b := by
  simp only [List.map_cons, List.map_nil, Tn.dd, dd1, dd3, foldD, List.foldl_cons, List.foldl_nil]
  rw [put_E t.g0 t.Sok, t.E, put_str t.g0 (by omega) (Int.le_refl 0), Int.add_zero]
theorem Tn.fold_cl (t : Tn d g f l b a) : foldD g ([IV.str "cross", IV.str "low"].map (Tn.dd g f l b a)) = strD g b := by
  simp only [List.map_cons, List.map_nil, Tn.dd, dd1, dd3, foldD, List.foldl_cons, List.foldl_nil]
  rw [put_E t.g0 t.E_ok, put_E t.g0 t.Sok]
theorem lst_at {env : Iv.Env} {xs : List IV} {M : Ma} (hM : M env h = .ok xs h) (hl : xs.length ≤ 100) : mLst M env h = .ok (.lst xs) h := by
  rw [e_mLst, hM, rbind_ok, if_pos (by rw [sz_eq]; omega)]
theorem s11_ok (t : Tn d g f l b a) : m_law_11 [e0, some (.ref 0), e2, some (.int d), some (.int g), some (.int f), some (.int l), some (.int b), some (.int a), e9, e10, some (plain d f l b a), some (kitK d g f l b a), some (dueV g f l b a), e14, e15, e16, e17, e18] h = .ok (.nx, [e0, some (.ref 0), e2, some (.int d), some (.int g), some (.int f), some (.int l), some (.int b), some (.int a), e9, e10, some (plain d f l b a), some (kitK d g f l b a), some (dueV g f l b a), e14, e15, e16, e17, e18]) h := by
  have k12 : mVar 12 [e0, some (.ref 0), e2, some (.int d), some (.int g), some (.int f), some (.int l), some (.int b), some (.int a), e9, e10, some (plain d f l b a), some (kitK d g f l b a), some (dueV g f l b a), e14, e15, e16, e17, e18] h = .ok (kitK d g f l b a) h := by simp
  have n1 : mLst (mCons (mC (.str "low")) (mCons (mC (.str "rails")) (mCons (mC (.str "high")) (mNil)))) [e0, some (.ref 0), e2, some (.int d), some (.int g), some (.int f), some (.int l), some (.int b), some (.int a), e9, e10, some (plain d f l b a), some (kitK d g f l b a), some (dueV g f l b a), e14, e15, e16, e17, e18] h = .ok (.lst [.str "low", .str "rails", .str "high"]) h := lst_at (by simp) (by simp)
  have n2 : mLst (mCons (mC (.str "rails")) (mNil)) [e0, some (.ref 0), e2, some (.int d), some (.int g), some (.int f), some (.int l), some (.int b), some (.int a), e9, e10, some (plain d f l b a), some (kitK d g f l b a), some (dueV g f l b a), e14, e15, e16, e17, e18] h = .ok (.lst [.str "rails"]) h := lst_at (by simp) (by simp)
  have a1 := t.dw k12 n1 (by simp) (all3 in1 in0 in2)
  have a2 := t.dw k12 n2 (by simp) (all1 in0)
  rw [t.fold_lrh] at a1
  rw [t.fold_r] at a2
  have due : mVar 13 [e0, some (.ref 0), e2, some (.int d), some (.int g), some (.int f), some (.int l), some (.int b), some (.int a), e9, e10, some (plain d f l b a), some (kitK d g f l b a), some (dueV g f l b a), e14, e15, e16, e17, e18] h = .ok (dueV g f l b a) h := by simp
  have args : (mCons (mVar 4) (mCons (mVar 5) (mCons (mVar 6) (mCons (mC (.int 0)) (mCons (mC (.int 0)) (mNil)))))) [e0, some (.ref 0), e2, some (.int d), some (.int g), some (.int f), some (.int l), some (.int b), some (.int a), e9, e10, some (plain d f l b a), some (kitK d g f l b a), some (dueV g f l b a), e14, e15, e16, e17, e18] h = .ok [.int g, .int f, .int l, .int 0, .int 0] h := by simp
  have rd : p__law_rails_rows [.int g, .int f, .int l, .int 0, .int 0] = some (dueV g f l 0 0) := by
    rw [rails_due t.dg.dg.gr f l 0 0]
    unfold dueV
    split <;> rfl
  have dv := callP_at args rfl rfl rd
  have vw : ∀ h : IH, cmpI .ne (view h (rowsI (rDd g f l 0 0))) (view h (dueV g f l 0 0)) = some false := fun h => by
    rw [view_rows, view_due]
    exact rows_ne_due t
  exact if_no (or_no (repr_no (fld12 a1) due view_rows view_due (due_shown t)) (cmp_no (fld12 a2) dv (vw h)))
end L22

/-! P22w: swaps, strings, fast rails, long rails. -/
namespace L22
open PySem Iv L2
variable {d : Int} {g f l b a : Nat} {k : Int} {h : IH} {e0 e2 e3 e4 e5 e6 e7 e8 e9 e10 e11 e12 e13 e14 e15 e16 e17 e18 : Option IV}
theorem ne_int {i : Int} : cmpI .ne (.int i) (.int i) = some false := by
  simp [cmpI, notO, eqI, pd, SeqAt.shaped, PyData.canLay0, PyData.depth, PyData.eqv]
theorem need_w {ns : List Nat} {vs : List IV} {s : Str} (hv : noRefs vs = true) : p_need_word [.ins 2 ns vs, .str s] = some (.ins 2 ns vs) := by
  simp [p_need_word, mf_need_word, pureM, bodyM, m_need_word, kt_Word, ktT, hv]
theorem two_words {ks n4 n1 n2 : List IV} {g : Int} {w1 w2 : IV} (h1 : IsWord (kitV d g ks n4) n1 w1) (h2 : IsWord (kitV d g ks n4) n2 w2) : p_need_two_words [w1, w2] = some .non := by
  obtain ⟨a1, b1, c1, e1, rfl, r1⟩ := h1
  obtain ⟨a2, b2, c2, e2, rfl, r2⟩ := h2
  have r1' : noRefs [kitV d g ks n4, .tpx n1, a1, b1, c1, e1] = true := r1
  have r2' : noRefs [kitV d g ks n4, .tpx n2, a2, b2, c2, e2] = true := r2
  have q1 := need_w (ns := [10, 9, 2, 11, 3, 4]) (s := "one") r1'
  have q2 := need_w (ns := [10, 9, 2, 11, 3, 4]) (s := "other") r2'
  unfold p_need_two_words mf_need_two_words pureM bodyM m_need_two_words
  generalize p_need_word = P at q1 q2 ⊢
  simp only [kitV] at r1' r2' q1 q2 ⊢
  simp at r1' r2'
  simp [q1, q2, r1', r2', look, ne_int]
theorem swap_gen {w1 w2 : IV} {g : Int} {x : Dd} (n1 : noRef w1 = true) (n2 : noRef w2 = true) (h2 : p_need_two_words [w1, w2] = some .non) (d1 : p_deed_of [w1] = some (x.enc g)) (d2 : p_deed_of [w2] = some (x.enc g)) : p_may_swap [w1, w2] = some (.bl true) := by
  have e := eq_self (g := g) (x := x)
  have n := noRef_enc (g := g) (x := x)
  unfold p_may_swap mf_may_swap pureM bodyM m_may_swap
  generalize p_need_two_words = P at h2 ⊢
  generalize p_deed_of = Q at d1 d2 ⊢
  cases x with
  | lost =>
    simp only [Dd.enc, DL] at e n d1 d2
    generalize p_Deed___eq__ = R at e ⊢
    simp [n1, n2, h2, d1, d2, e, blI]
  | of y x z =>
    simp only [Dd.enc, D] at e n d1 d2
    generalize p_Deed___eq__ = R at e ⊢
    simp [n1, n2, h2, d1, d2, e, blI]
/-- two words of the kit that do the same -/
theorem Tn.swap (t : Tn d g f l b a) {env : Iv.Env} {V N1 N2 : Mv} {n1 n2 : List IV} {x : Dd} (hV : V env h = .ok (kitK d g f l b a) h) (hN1 : N1 env h = .ok (.lst n1) h) (hN2 : N2 env h = .ok (.lst n2) h) (l1 : n1.length ≤ 60) (l2 : n2.length ≤ 60) (m1 : ∀ x ∈ n1, x ∈ nm4) (m2 : ∀ x ∈ n2, x ∈ nm4)
    (x1 : foldD g (n1.map (Tn.dd g f l b a)) = x) (x2 : foldD g (n2.map (Tn.dd g f l b a)) = x) :
    mCallP 2 p_may_swap [] (mCons (mMake 3 k_Word___init__ [] (mCons V (mCons N1 mNil))) (mCons (mMake 3 k_Word___init__ [] (mCons V (mCons N2 mNil))) mNil)) env h = .ok (.bl true) h := by
  obtain ⟨w1, q1, hw1⟩ := t.word l1 m1
  obtain ⟨w2, q2, hw2⟩ := t.word l2 m2
  have nw1 : noRef w1 = true := by obtain ⟨_, _, _, _, _, nr⟩ := hw1; exact nr
  have nw2 : noRef w2 = true := by obtain ⟨_, _, _, _, _, nr⟩ := hw2; exact nr
  have d1 := t.deed m1 hw1
  have d2 := t.deed m2 hw2
  rw [x1] at d1
  rw [x2] at d2
  have sw := swap_gen nw1 nw2 (two_words hw1 hw2) d1 d2
  have k1 := mk1 hV hN1 nr_kit (nm4_nr m1) q1
  have k2 := mk1 hV hN2 nr_kit (nm4_nr m2) q2
  generalize mMake 3 k_Word___init__ [] (mCons V (mCons N1 mNil)) = M1 at k1 ⊢
  generalize mMake 3 k_Word___init__ [] (mCons V (mCons N2 mNil)) = M2 at k2 ⊢
  generalize p_may_swap = P at sw ⊢
  simp [k1, k2, nw1, nw2, sw]
theorem kit_need {ks n4 : List IV} {g : Int} (hk : noRefs ks = true) (hn : noRefs n4 = true) : p_need_kit [kitV d g ks n4, .str "kit"] = some (kitV d g ks n4) := by
  simp [p_need_kit, mf_need_kit, pureM, bodyM, m_need_kit, kitV, kt_Kit, ktT, hk, hn]
theorem empty_gen {P Q R : List IV → Option IV} {ks n4 : List IV} {g : Int} {rows x : IV} (hk : noRefs ks = true) (hn : noRefs n4 = true) (nr : noRef rows = true) (nx : noRef x = true) (nk : P [.ins 1 [5, 6, 7, 8, 9] [.int d, .int 2, .tpx ks, .int g, .tpx n4], .str "kit"] = some (.ins 1 [5, 6, 7, 8, 9] [.int d, .int 2, .tpx ks, .int g, .tpx n4]))
    (er : Q [.int g, .int 2] = some rows) (eo : R [.int g, .int 2, rows] = some x) : pureM (bodyM 2 (mThen (mSet 1 (mCallP 2 P [.str "kit"] (mCons (mVar 0) (mNil)))) (mRet (mMake 4 R [] (mCons (mFld 8 (mVar 1)) (mCons (mFld 6 (mVar 1)) (mCons (mCallP 2 Q [] (mCons (mFld 8 (mVar 1)) (mCons (mFld 6 (mVar 1)) (mNil)))) (mNil)))))))) [.ins 1 [5, 6, 7, 8, 9] [.int d, .int 2, .tpx ks, .int g, .tpx n4]] = some x := by
  simp [pureM, bodyM, nk, hk, hn, look, er, eo, nr, nx]
theorem empty_kit {ks n4 : List IV} {g : Int} (hg : Gr g) (hk : noRefs ks = true) (hn : noRefs n4 = true) : p_empty_deed [kitV d g ks n4] = some ((Dd.of 0 0 g).enc g) :=
  empty_gen hk hn rfl noRef_enc (kit_need (d := d) (g := g) hk hn) (empty_deed_rows hg) (empty_ok hg)
theorem kd_gen {P Q R S : List IV → Option IV} {ks n4 : List IV} {g : Int} {s : Str} {k r x : IV} (hk : noRefs ks = true) (hn : noRefs n4 = true) (nkk : noRef k = true) (nr : noRef r = true) (nx : noRef x = true) (nk : P [.ins 1 [5, 6, 7, 8, 9] [.int d, .int 2, .tpx ks, .int g, .tpx n4], .str "kit"] = some (.ins 1 [5, 6, 7, 8, 9] [.int d, .int 2, .tpx ks, .int g, .tpx n4]))
    (kc : S [.ins 1 [5, 6, 7, 8, 9] [.int d, .int 2, .tpx ks, .int g, .tpx n4], .str s] = some k) (e1 : Q [.int g, k] = some r) (e2 : R [.int g, .int 2, r] = some x) : pureM (bodyM 3 (mThen (mSet 2 (mCallP 2 P [.str "kit"] (mCons (mVar 0) (mNil)))) (mRet (mCallP 3 R [] (mCons (mFld 8 (mVar 2)) (mCons (mFld 6 (mVar 2)) (mCons (mCallP 2 Q [] (mCons (mFld 8 (mVar 2)) (mCons (mMeth 1 2 S [] (mVar 2) (mCons (mVar 1) (mNil))) (mNil)))) (mNil)))))))) [.ins 1 [5, 6, 7, 8, 9] [.int d, .int 2, .tpx ks, .int g, .tpx n4], .str s] = some x := by
  simp [pureM, bodyM, nk, hk, hn, look, kc, e1, e2, nkk, nr, nx]
theorem cross_deed (t : Tn d g f l b a) : p_kind_deed [kitK d g f l b a, .str "cross"] = some ((Dd.of 0 0 g).enc g) := by
  obtain ⟨r, e1, nr, e2⟩ := t.rX
  exact kd_gen (g := (g : Int)) nks (show noRefs nm4 = true from rfl) nr_cross nr noRef_enc (kit_need nks rfl) kind_cross e1 e2
theorem s13_ok (t : Tn d g f l b a) : m_law_13 [e0, some (.ref 0), e2, some (.int d), some (.int g), some (.int f), some (.int l), some (.int b), some (.int a), e9, e10, some (plain d f l b a), some (kitK d g f l b a), some (dueV g f l b a), e14, e15, e16, e17, e18] h = .ok (.nx, [e0, some (.ref 0), e2, some (.int d), some (.int g), some (.int f), some (.int l), some (.int b), some (.int a), e9, e10, some (plain d f l b a), some (kitK d g f l b a), some (dueV g f l b a), e14, e15, e16, e17, e18]) h := by
  have k12 : mVar 12 [e0, some (.ref 0), e2, some (.int d), some (.int g), some (.int f), some (.int l), some (.int b), some (.int a), e9, e10, some (plain d f l b a), some (kitK d g f l b a), some (dueV g f l b a), e14, e15, e16, e17, e18] h = .ok (kitK d g f l b a) h := by simp
  have a1 : (mCons (mVar 12) (mCons (mC (.str "cross")) (mNil))) [e0, some (.ref 0), e2, some (.int d), some (.int g), some (.int f), some (.int l), some (.int b), some (.int a), e9, e10, some (plain d f l b a), some (kitK d g f l b a), some (dueV g f l b a), e14, e15, e16, e17, e18] h = .ok [kitK d g f l b a, .str "cross"] h := by simp
  have a2 : (mCons (mVar 12) (mNil)) [e0, some (.ref 0), e2, some (.int d), some (.int g), some (.int f), some (.int l), some (.int b), some (.int a), e9, e10, some (plain d f l b a), some (kitK d g f l b a), some (dueV g f l b a), e14, e15, e16, e17, e18] h = .ok [kitK d g f l b a] h := by simp
  have nk := nr_kit (d := d) (g := g) (f := f) (l := l) (b := b) (a := a)
  have c1 := callP_at a1 rfl (by simp [nk]) (cross_deed t)
  have ek : p_empty_deed [kitK d g f l b a] = some ((Dd.of 0 0 g).enc g) := empty_kit t.dg.dg.gr nks rfl
  have c2 := callP_at a2 rfl (by simp [nk]) ek
  have n1 : mLst (mCons (mC (.str "cross")) (mCons (mC (.str "rails")) (mNil))) [e0, some (.ref 0), e2, some (.int d), some (.int g), some (.int f), some (.int l), some (.int b), some (.int a), e9, e10, some (plain d f l b a), some (kitK d g f l b a), some (dueV g f l b a), e14, e15, e16, e17, e18] h = .ok (.lst [.str "cross", .str "rails"]) h := lst_at (by simp) (by simp)
  have n2 : mLst (mCons (mC (.str "rails")) (mNil)) [e0, some (.ref 0), e2, some (.int d), some (.int g), some (.int f), some (.int l), some (.int b), some (.int a), e9, e10, some (plain d f l b a), some (kitK d g f l b a), some (dueV g f l b a), e14, e15, e16, e17, e18] h = .ok (.lst [.str "rails"]) h := lst_at (by simp) (by simp)
  have n3 : mLst (mCons (mC (.str "low")) (mCons (mC (.str "cross")) (mNil))) [e0, some (.ref 0), e2, some (.int d), some (.int g), some (.int f), some (.int l), some (.int b), some (.int a), e9, e10, some (plain d f l b a), some (kitK d g f l b a), some (dueV g f l b a), e14, e15, e16, e17, e18] h = .ok (.lst [.str "low", .str "cross"]) h := lst_at (by simp) (by simp)
  have n4 : mLst (mCons (mC (.str "cross")) (mCons (mC (.str "low")) (mNil))) [e0, some (.ref 0), e2, some (.int d), some (.int g), some (.int f), some (.int l), some (.int b), some (.int a), e9, e10, some (plain d f l b a), some (kitK d g f l b a), some (dueV g f l b a), e14, e15, e16, e17, e18] h = .ok (.lst [.str "cross", .str "low"]) h := lst_at (by simp) (by simp)
  have w1 := t.swap k12 n1 n2 (by simp) (by simp) (all2 in3 in0) (all1 in0) t.fold_cr t.fold_r
  have w2 := t.swap k12 n3 n4 (by simp) (by simp) (all2 in1 in3) (all2 in3 in1) t.fold_lc t.fold_cl
  exact if_no (or_no (own_no c1 c2) (or_no (not_tru w1) (not_tru w2)))
end L22

/-! P22x: the rest of the law's turn. -/
namespace L22
open PySem Iv L2
section
variable {env : Iv.Env} {h h1 h2 : IH} {A B N V : Mv} {t u : Mb} {x y kit w : IV} {xs ys names : List IV}
theorem add_lst (hA : A env h = .ok (.lst xs) h1) (hB : B env h1 = .ok (.lst ys) h2) (hl : xs.length + ys.length ≤ 1000) : mBin .add A B env h = .ok (.lst (xs ++ ys)) h2 := by
  have c : binI .add (.lst xs) (.lst ys) = some (.lst (xs ++ ys)) := by
    simp only [binI]
    rw [if_pos (by rw [sz_eq]; omega)]
  rw [e_mBin, hA, rbind_ok, hB, rbind_ok, view_lst, view_lst, c]
  rfl
theorem mul_ii {i j : Int} (hA : A env h = .ok (.int i) h1) (hB : B env h1 = .ok (.int j) h2) (hg : -(2 ^ 64) < i ∧ i < 2 ^ 64) : mBin .mul A B env h = .ok (.int (i * j)) h2 := by
  have c : binI .mul (.int i) (.int j) = some (.int (i * j)) := by
    rw [mul_int, if_pos (.inl hg)]
  rw [e_mBin, hA, rbind_ok, hB, rbind_ok, view_int, view_int, c]
  rfl
theorem mul_tup {x : IV} {k : Nat} (hA : A env h = .ok (.tup [x]) h1) (hB : B env h1 = .ok (.int k) h2) (h1k : 1 < k) (h2k : k ≤ 1000) : mBin .mul A B env h = .ok (.tup (List.replicate k x)) h2 := by
  have c : binI .mul (.tup [x]) (.int k) = some (.tup (List.replicate k x)) := by
    have q : (1 : Int) < k ∧ (k : Int) ≤ 1000 ∧ [x] ≠ [] ∧ [x].length ≤ 1000 := ⟨by omega, by omega, by simp, by simp⟩
    unfold binI
    show (if _ then _ else _) = _
    rw [if_pos q, repI_one, Int.toNat_natCast]
  rw [e_mBin, hA, rbind_ok, hB, rbind_ok, view_tup, view_int, c]
  rfl
theorem draw_at {P : Ma} {x : IV} {vs : List IV} {F : Mf} (hP : P env h = .ok vs h1) (hl : vs.length = 2) (e : F vs h1 = .ok x h2) : mCall 2 F [] P env h = .ok x h2 := by
  rw [e_mCall, hP, rbind_ok, List.append_nil, if_pos hl, e]
theorem set_at {i : Nat} (hA : A env h = .ok x h1) : mSet i A env h = .ok (.nx, env.set i (some x)) h1 := by
  rw [e_mSet, hA]
  rfl
theorem fld9 {n : List IV} (hA : A env h = .ok w h1) (hw : IsWord kit n w) : mFld 9 A env h = .ok (.tpx n) h1 := by
  obtain ⟨a, b, c, e, rfl, nr⟩ := hw
  rw [e_mFld, hA, rbind_ok]
  simp [look]
theorem tct_at {n : List IV} {y : IV} (hA : A env h = .ok (.tpx n) h1) (hB : B env h1 = .ok y h2) (hy : flatI y = true) (hn : n.all flatI = true) {c : Nat} (hc : (n.countP fun z => eqF z y) = c) : mTct A B env h = .ok (.int c) h2 := by
  unfold mTct
  rw [hA, rbind_ok]
  show ((B env h1).bind fun y h2 => _) = _
  rw [hB, rbind_ok]
  rw [if_pos ⟨hy, hn⟩, hc]
end
variable {d : Int} {g f l b a : Nat} {k : Int} {h : IH} {e0 e2 e3 e4 e5 e6 e7 e8 e9 e10 e11 e12 e13 e14 e15 e16 e17 e18 : Option IV}
theorem draw_ma {env : Iv.Env} {m : Int} (h1 : env[1]? = some (some (.ref 0))) : (mCons (mVar 1) (mCons (mC (.int m)) (mNil))) env h = .ok [.ref 0, .int m] h := by simp [h1]
theorem s15_ok (p : Pen k 0 h) (hk : k < 900000) : ∃ (m : Nat) (h' : IH), m_law_15 [e0, some (.ref 0), e2, some (.int d), some (.int g), some (.int f), some (.int l), some (.int b), some (.int a), e9, e10, some (plain d f l b a), some (kitK d g f l b a), some (dueV g f l b a), e14, e15, e16, e17, e18] h = .ok (.nx, [e0, some (.ref 0), e2, some (.int d), some (.int g), some (.int f), some (.int l), some (.int b), some (.int a), e9, e10, some (plain d f l b a), some (kitK d g f l b a), some (dueV g f l b a), some (.int m), e15, e16, e17, e18]) h' ∧ m < 31 ∧ Pen (k + 1) 0 h' := by
  obtain ⟨m, h', e, hm, p'⟩ := draw1 p (by omega) (m := 31) (by decide) (by decide)
  exact ⟨m, h', set_at (draw_at (draw_ma rfl) rfl e), by omega, p'⟩
def lcl (m n q : Nat) : List IV := List.replicate m (.str "low") ++ List.replicate n (.str "cross") ++ List.replicate q (.str "low")
theorem lcl_mem {m n q : Nat} : ∀ x ∈ lcl m n q, x ∈ nm4 := fun x hx => by
  rcases List.mem_append.mp hx with hx | hx
  · rcases List.mem_append.mp hx with hx | hx
    · rw [List.eq_of_mem_replicate hx]; exact in1
    · rw [List.eq_of_mem_replicate hx]; exact in3
  · rw [List.eq_of_mem_replicate hx]; exact in1
theorem s16_ok (t : Tn d g f l b a) (p : Pen k 0 h) (hk : k < 900000) {m : Nat} (hm : m < 31) : ∃ (n q : Nat) (w : IV) (h' : IH), m_law_16 [e0, some (.ref 0), e2, some (.int d), some (.int g), some (.int f), some (.int l), some (.int b), some (.int a), e9, e10, some (plain d f l b a), some (kitK d g f l b a), some (dueV g f l b a), some (.int m), e15, e16, e17, e18] h = .ok (.nx, [e0, some (.ref 0), e2, some (.int d), some (.int g), some (.int f), some (.int l), some (.int b), some (.int a), e9, e10, some (plain d f l b a), some (kitK d g f l b a), some (dueV g f l b a), some (.int m), some w, e16, e17, e18]) h' ∧ IsWord (kitK d g f l b a) (lcl m n q) w ∧ m + q ≤ 50 ∧ Pen (k + 2) 0 h' := by
  obtain ⟨n, h1, e1, hn, p1⟩ := draw1 p (by omega) (m := 10) (by decide) (by decide)
  obtain ⟨q, h2, e2', hq, p2⟩ := draw1 p1 (by omega) (m := 20) (by decide) (by decide)
  obtain ⟨w, ew, hw⟩ := t.word (names := lcl m n q) (by simp [lcl]; omega) lcl_mem
  refine ⟨n, q, w, h2, ?_, hw, by omega, by rw [show k + 2 = k + 1 + 1 by omega]; exact p2⟩
  have a1 : mBin .mul (mLst (mCons (mC (.str "low")) (mNil))) (mVar 14) [e0, some (.ref 0), e2, some (.int d), some (.int g), some (.int f), some (.int l), some (.int b), some (.int a), e9, e10, some (plain d f l b a), some (kitK d g f l b a), some (dueV g f l b a), some (.int m), e15, e16, e17, e18] h = .ok (.lst (List.replicate m (.str "low"))) h := mul_rep (lst_at (by simp) (by simp)) (by simp) (by omega)
  have a2 : mBin .mul (mLst (mCons (mC (.str "cross")) (mNil))) (mCall 2 mf__law_draw [] (mCons (mVar 1) (mCons (mC (.int 10)) (mNil)))) [e0, some (.ref 0), e2, some (.int d), some (.int g), some (.int f), some (.int l), some (.int b), some (.int a), e9, e10, some (plain d f l b a), some (kitK d g f l b a), some (dueV g f l b a), some (.int m), e15, e16, e17, e18] h = .ok (.lst (List.replicate n (.str "cross"))) h1 := mul_rep (lst_at (by simp) (by simp)) (draw_at (draw_ma rfl) rfl e1) (by omega)
  have a3 : mBin .mul (mLst (mCons (mC (.str "low")) (mNil))) (mCall 2 mf__law_draw [] (mCons (mVar 1) (mCons (mC (.int 20)) (mNil)))) [e0, some (.ref 0), e2, some (.int d), some (.int g), some (.int f), some (.int l), some (.int b), some (.int a), e9, e10, some (plain d f l b a), some (kitK d g f l b a), some (dueV g f l b a), some (.int m), e15, e16, e17, e18] h1 = .ok (.lst (List.replicate q (.str "low"))) h2 := mul_rep (lst_at (by simp) (by simp)) (draw_at (draw_ma rfl) rfl e2') (by omega)
  have nn := add_lst (add_lst a1 a2 (by simp; omega)) a3 (by simp; omega)
  have k12 : mVar 12 [e0, some (.ref 0), e2, some (.int d), some (.int g), some (.int f), some (.int l), some (.int b), some (.int a), e9, e10, some (plain d f l b a), some (kitK d g f l b a), some (dueV g f l b a), some (.int m), e15, e16, e17, e18] h = .ok (kitK d g f l b a) h := by simp
  exact set_at (mk1 k12 nn nr_kit (nm4_nr lcl_mem) ew)
theorem lcl_count {m n q : Nat} : ((lcl m n q).countP fun z => eqF z (.str "low")) = m + q := by
  have c1 : eqF (.str "low") (.str "low") = true := by kernel_rfl
  have c2 : eqF (.str "cross") (.str "low") = false := by kernel_rfl
  simp [lcl, List.countP_append, List.countP_replicate, c1, c2]
theorem lcl_flat {m n q : Nat} : (lcl m n q).all flatI = true := by
  rw [List.all_eq_true]
  intro x hx
  have := lcl_mem x hx
  simp only [nm4, List.mem_cons, List.not_mem_nil, or_false] at this
  rcases this with rfl | rfl | rfl | rfl <;> rfl
theorem s17_ok (t : Tn d g f l b a) {m n q : Nat} {w : IV} (hw : IsWord (kitK d g f l b a) (lcl m n q) w) : m_law_17 [e0, some (.ref 0), e2, some (.int d), some (.int g), some (.int f), some (.int l), some (.int b), some (.int a), e9, e10, some (plain d f l b a), some (kitK d g f l b a), some (dueV g f l b a), e14, some w, e16, e17, e18] h = .ok (.nx, [e0, some (.ref 0), e2, some (.int d), some (.int g), some (.int f), some (.int l), some (.int b), some (.int a), e9, e10, some (plain d f l b a), some (kitK d g f l b a), some (dueV g f l b a), e14, some w, some (.int (b * (m + q : Nat))), e17, e18]) h := by
  have v15 : mVar 15 [e0, some (.ref 0), e2, some (.int d), some (.int g), some (.int f), some (.int l), some (.int b), some (.int a), e9, e10, some (plain d f l b a), some (kitK d g f l b a), some (dueV g f l b a), e14, some w, e16, e17, e18] h = .ok w h := by simp
  have v7 : mVar 7 [e0, some (.ref 0), e2, some (.int d), some (.int g), some (.int f), some (.int l), some (.int b), some (.int a), e9, e10, some (plain d f l b a), some (kitK d g f l b a), some (dueV g f l b a), e14, some w, e16, e17, e18] h = .ok (.int b) h := by simp
  have b8 := t.b8
  exact set_at (mul_ii v7 (tct_at (fld9 v15 hw) (show mC (.str "low") _ h = .ok (.str "low") h from rfl) rfl lcl_flat lcl_count) ⟨by omega, by omega⟩)
theorem fold_lcl (t : Tn d g f l b a) {m n q : Nat} : foldD g ((lcl m n q).map (Tn.dd g f l b a)) = strD g (b * (m + q : Nat)) := by
  simp only [lcl, List.map_append, List.map_replicate, Tn.dd, dd1, dd3]
  exact fold_word t.g0 (by omega) m n q
theorem max_if (x : Int) : (if x > 0 then x else 0) = max 0 x := by omega
theorem s18_ok (t : Tn d g f l b a) {m n q : Nat} {w : IV} (hw : IsWord (kitK d g f l b a) (lcl m n q) w) : m_law_18 [e0, some (.ref 0), e2, some (.int d), some (.int g), some (.int f), some (.int l), some (.int b), some (.int a), e9, e10, some (plain d f l b a), some (kitK d g f l b a), some (dueV g f l b a), e14, some w, some (.int (b * (m + q : Nat))), e17, e18] h = .ok (.nx, [e0, some (.ref 0), e2, some (.int d), some (.int g), some (.int f), some (.int l), some (.int b), some (.int a), e9, e10, some (plain d f l b a), some (kitK d g f l b a), some (dueV g f l b a), e14, some w, some (.int (b * (m + q : Nat))), e17, e18]) h := by
  have nw : noRef w = true := by obtain ⟨_, _, _, _, _, nr⟩ := hw; exact nr
  have dd := t.deed lcl_mem hw
  rw [fold_lcl t] at dd
  have v15 : (mCons (mVar 15) (mNil)) [e0, some (.ref 0), e2, some (.int d), some (.int g), some (.int f), some (.int l), some (.int b), some (.int a), e9, e10, some (plain d f l b a), some (kitK d g f l b a), some (dueV g f l b a), e14, some w, some (.int (b * (m + q : Nat))), e17, e18] h = .ok [w] h := by simp
  have a1 := callP_at (n := 1) v15 rfl (by simp [nw]) dd
  generalize hs : (b : Int) * ((m + q : Nat) : Int) = s at *
  have s0 : 0 ≤ s := by rw [← hs]; exact Int.mul_nonneg (by omega) (by omega)
  have a2 : mTup (mCons (mTup (mCons (mC (.int 0)) (mCons (mC (.int 0)) (mNil)))) (mCons (mTup (mCons (mC (.int 0)) (mCons (mBf bMax (mCons (mC (.int 0)) (mCons (mBin .sub (mVar 4) (mVar 16)) (mNil)))) (mNil)))) (mNil))) [e0, some (.ref 0), e2, some (.int d), some (.int g), some (.int f), some (.int l), some (.int b), some (.int a), e9, e10, some (plain d f l b a), some (kitK d g f l b a), some (dueV g f l b a), e14, some w, some (.int s), e17, e18] h = .ok (.tup [.tup [.int 0, .int 0], .tup [.int 0, .int (max 0 (g - s))]]) h := by
    have mi : (if s < (g : Int) then (g : Int) - s else 0) = max 0 (g - s) := by omega
    simp [mi]
  have vd : ∀ (z : Int) (h : IH), view h (.tup [.tup [.int 0, .int 0], .tup [.int 0, .int z]]) = view [] (.tup [.tup [.int 0, .int 0], .tup [.int 0, .int z]]) := fun z h => rfl
  have c : shB (rowsI (strD g s)) (.tup [.tup [.int 0, .int 0], .tup [.int 0, .int (max 0 (g - s))]]) [] = true := by
    have g6 := t.g6
    unfold strD
    generalize hz : max 0 ((g : Int) - s) = z
    obtain ⟨z, rfl⟩ := Int.eq_ofNat_of_zero_le (show 0 ≤ z by omega)
    exact allB_at shown_str (show z < 7 by omega)
  exact if_no (repr_no (fld12 a1) a2 view_rows (vd _) c)
theorem s20_ok (t : Tn d g f l b a) : m_law_20 [e0, some (.ref 0), e2, some (.int d), some (.int g), some (.int f), some (.int l), some (.int b), some (.int a), e9, e10, some (plain d f l b a), some (kitK d g f l b a), some (dueV g f l b a), e14, e15, e16, e17, e18] h = .ok (.nx, [e0, some (.ref 0), e2, some (.int d), some (.int g), some (.int f), some (.int l), some (.int b), some (.int a), e9, e10, some (plain d f l b a), some (kitK d g f l b a), some (dueV g f l b a), e14, e15, e16, some (fastV d g), e18]) h := by
  have g6 := t.g6
  have l1 : mLst (mCons (mC (.str "a")) (mCons (mC (.str "c")) (mNil))) [e0, some (.ref 0), e2, some (.int d), some (.int g), some (.int f), some (.int l), some (.int b), some (.int a), e9, e10, some (plain d f l b a), some (kitK d g f l b a), some (dueV g f l b a), e14, e15, e16, e17, e18] h = .ok (.lst [fsA, fsC]) h := lst_at (by simp [fsA, fsC]) (by simp)
  have l2 : mLst (mCons (mC (.str "b")) (mCons (mC (.str "d")) (mNil))) [e0, some (.ref 0), e2, some (.int d), some (.int g), some (.int f), some (.int l), some (.int b), some (.int a), e9, e10, some (plain d f l b a), some (kitK d g f l b a), some (dueV g f l b a), e14, e15, e16, e17, e18] h = .ok (.lst [fsB, fsD]) h := lst_at (by simp [fsB, fsD]) (by simp)
  have one : ∀ {A : Mv} {x : IV}, A [e0, some (.ref 0), e2, some (.int d), some (.int g), some (.int f), some (.int l), some (.int b), some (.int a), e9, e10, some (plain d f l b a), some (kitK d g f l b a), some (dueV g f l b a), e14, e15, e16, e17, e18] h = .ok x h → mLst (mCons A (mNil)) [e0, some (.ref 0), e2, some (.int d), some (.int g), some (.int f), some (.int l), some (.int b), some (.int a), e9, e10, some (plain d f l b a), some (kitK d g f l b a), some (dueV g f l b a), e14, e15, e16, e17, e18] h = .ok (.lst [x]) h := fun hA => lst_at (by simp [hA]) (by simp)
  have v4 : mVar 4 [e0, some (.ref 0), e2, some (.int d), some (.int g), some (.int f), some (.int l), some (.int b), some (.int a), e9, e10, some (plain d f l b a), some (kitK d g f l b a), some (dueV g f l b a), e14, e15, e16, e17, e18] h = .ok (.int g) h := by simp
  have r := add_lst (mul_rep (one l1) v4 (by omega)) (mul_rep (one l2) v4 (by omega)) (by simp; omega)
  have p1 : mLst (mCons (mC (.str "a")) (mCons (mC (.str "b")) (mCons (mC (.str "c")) (mCons (mC (.str "d")) (mNil))))) [e0, some (.ref 0), e2, some (.int d), some (.int g), some (.int f), some (.int l), some (.int b), some (.int a), e9, e10, some (plain d f l b a), some (kitK d g f l b a), some (dueV g f l b a), e14, e15, e16, e17, e18] h = .ok (.lst [fsA, fsB, fsC, fsD]) h := lst_at (by simp [fsA, fsB, fsC, fsD]) (by simp)
  have p2 : mLst (mCons (mC (.str "a")) (mCons (mC (.str "b")) (mNil))) [e0, some (.ref 0), e2, some (.int d), some (.int g), some (.int f), some (.int l), some (.int b), some (.int a), e9, e10, some (plain d f l b a), some (kitK d g f l b a), some (dueV g f l b a), e14, e15, e16, e17, e18] h = .ok (.lst [fsA, fsB]) h := lst_at (by simp [fsA, fsB]) (by simp)
  have p3 : mLst (mCons (mC (.str "c")) (mCons (mC (.str "d")) (mNil))) [e0, some (.ref 0), e2, some (.int d), some (.int g), some (.int f), some (.int l), some (.int b), some (.int a), e9, e10, some (plain d f l b a), some (kitK d g f l b a), some (dueV g f l b a), e14, e15, e16, e17, e18] h = .ok (.lst [fsC, fsD]) h := lst_at (by simp [fsC, fsD]) (by simp)
  have nrr : ∀ (k : Nat) (x y : IV), noRef x = true → noRef y = true → noRefs (List.replicate k (.lst [x, y])) = true := fun k x y hx hy => nr_rep (by simp [hx, hy]) k
  have mk : ∀ {n : Nat} {m : List IV → Option IV} {M : Ma} {vs : List IV} {x : IV}, M [e0, some (.ref 0), e2, some (.int d), some (.int g), some (.int f), some (.int l), some (.int b), some (.int a), e9, e10, some (plain d f l b a), some (kitK d g f l b a), some (dueV g f l b a), e14, e15, e16, e17, e18] h = .ok vs h → vs.length + 1 = n → noRefs vs = true → m vs = some x → mMake n m [] M [e0, some (.ref 0), e2, some (.int d), some (.int g), some (.int f), some (.int l), some (.int b), some (.int a), e9, e10, some (plain d f l b a), some (kitK d g f l b a), some (dueV g f l b a), e14, e15, e16, e17, e18] h = .ok x h := fun hM hl nr hm => by
    rw [e_mMake, hM, rbind_ok, List.append_nil, if_pos ⟨hl, nr⟩, hm]
    rfl
  have cons_at : ∀ {A : Mv} {M : Ma} {x : IV} {xs : List IV}, A [e0, some (.ref 0), e2, some (.int d), some (.int g), some (.int f), some (.int l), some (.int b), some (.int a), e9, e10, some (plain d f l b a), some (kitK d g f l b a), some (dueV g f l b a), e14, e15, e16, e17, e18] h = .ok x h → M [e0, some (.ref 0), e2, some (.int d), some (.int g), some (.int f), some (.int l), some (.int b), some (.int a), e9, e10, some (plain d f l b a), some (kitK d g f l b a), some (dueV g f l b a), e14, e15, e16, e17, e18] h = .ok xs h → mCons A M [e0, some (.ref 0), e2, some (.int d), some (.int g), some (.int f), some (.int l), some (.int b), some (.int a), e9, e10, some (plain d f l b a), some (kitK d g f l b a), some (dueV g f l b a), e14, e15, e16, e17, e18] h = .ok (x :: xs) h := fun hA hM => by
    rw [e_mCons, hA, rbind_ok, hM, rbind_ok]
  have nil_at : mNil [e0, some (.ref 0), e2, some (.int d), some (.int g), some (.int f), some (.int l), some (.int b), some (.int a), e9, e10, some (plain d f l b a), some (kitK d g f l b a), some (dueV g f l b a), e14, e15, e16, e17, e18] h = .ok [] h := rfl
  have ch : ∀ s : Str, mC (.str s) [e0, some (.ref 0), e2, some (.int d), some (.int g), some (.int f), some (.int l), some (.int b), some (.int a), e9, e10, some (plain d f l b a), some (kitK d g f l b a), some (dueV g f l b a), e14, e15, e16, e17, e18] h = .ok (.str s) h := fun s => rfl
  have kd := mk (n := 6) (m := k_Kind___init__) (cons_at (ch "rails") (cons_at p1 (cons_at p2 (cons_at p3 (cons_at r nil_at))))) rfl (by have n1 := nrr g fsA fsC rfl rfl; have n2 := nrr g fsB fsD rfl rfl; simp only [e_nrCons, e_nrStr, e_nrLst, e_nrNil, noRefs_app, n1, n2, Bool.and_true, Bool.true_and]; rfl) (fast_kind t.dg)
  have v3 : mVar 3 [e0, some (.ref 0), e2, some (.int d), some (.int g), some (.int f), some (.int l), some (.int b), some (.int a), e9, e10, some (plain d f l b a), some (kitK d g f l b a), some (dueV g f l b a), e14, e15, e16, e17, e18] h = .ok (.int d) h := by simp
  have nf := fast_nr t.dg
  exact set_at (mk (n := 4) (m := k_Kit___init__) (cons_at v3 (cons_at (show mC (.int 2) _ h = .ok (.int 2) h from rfl) (cons_at (one kd) nil_at))) rfl (by simp [nf]) (fast_kit t.dg))
theorem s21_ok (t : Tn d g f l b a) (p : Pen k 0 h) (hk : k < 900000) : ∃ h', m_law_21 [e0, some (.ref 0), e2, some (.int d), some (.int g), some (.int f), some (.int l), some (.int b), some (.int a), e9, e10, some (plain d f l b a), some (kitK d g f l b a), some (dueV g f l b a), e14, e15, e16, some (fastV d g), e18] h = .ok (.nx, [e0, some (.ref 0), e2, some (.int d), some (.int g), some (.int f), some (.int l), some (.int b), some (.int a), e9, e10, some (plain d f l b a), some (kitK d g f l b a), some (dueV g f l b a), e14, e15, e16, some (fastV d g), e18]) h' ∧ Pen (k + 1) 0 h' := by
  obtain ⟨n, h1, e1, hn, p1⟩ := draw1 p (by omega) (m := 61) (by decide) (by decide)
  refine ⟨h1, ?_, p1⟩
  have a2 : mBin .mul (mLst (mCons (mC (.str "rails")) (mNil))) (mCall 2 mf__law_draw [] (mCons (mVar 1) (mCons (mC (.int 61)) (mNil)))) [e0, some (.ref 0), e2, some (.int d), some (.int g), some (.int f), some (.int l), some (.int b), some (.int a), e9, e10, some (plain d f l b a), some (kitK d g f l b a), some (dueV g f l b a), e14, e15, e16, some (fastV d g), e18] h = .ok (.lst (List.replicate n (.str "rails"))) h1 := mul_rep (lst_at (by simp) (by simp)) (draw_at (draw_ma rfl) rfl e1) (by omega)
  obtain ⟨w, ew, hw⟩ := fast_word t.dg (k := n) (by omega)
  have nw : noRef w = true := by obtain ⟨_, _, _, _, _, nr⟩ := hw; exact nr
  have nf : noRef (fastV d g) = true := by simp [fastV, kitV, fast_nr t.dg]
  have v17 : ∀ h, mVar 17 [e0, some (.ref 0), e2, some (.int d), some (.int g), some (.int f), some (.int l), some (.int b), some (.int a), e9, e10, some (plain d f l b a), some (kitK d g f l b a), some (dueV g f l b a), e14, e15, e16, some (fastV d g), e18] h = .ok (fastV d g) h := fun h => by simp
  have c1 := dw1 (v17 h) a2 nf (nr_rep rfl n) ew nw (fast_deed t.dg hw)
  have m17 : (mCons (mVar 17) (mNil)) [e0, some (.ref 0), e2, some (.int d), some (.int g), some (.int f), some (.int l), some (.int b), some (.int a), e9, e10, some (plain d f l b a), some (kitK d g f l b a), some (dueV g f l b a), e14, e15, e16, some (fastV d g), e18] h1 = .ok [fastV d g] h1 := by simp
  have ek : p_empty_deed [fastV d g] = some ((Dd.of 0 0 g).enc g) := empty_kit t.dg.dg.gr (by simp [fast_nr t.dg]) rfl
  have c2 := callP_at (n := 1) m17 rfl (by simp [nf]) ek
  exact if_no (own_no c1 c2)
theorem s23_ok (p : Pen k 0 h) (hk : k < 900000) : ∃ (m : Nat) (h' : IH), m_law_23 [e0, some (.ref 0), e2, some (.int d), some (.int g), some (.int f), some (.int l), some (.int b), some (.int a), e9, e10, some (plain d f l b a), some (kitK d g f l b a), some (dueV g f l b a), e14, e15, e16, e17, e18] h = .ok (.nx, [e0, some (.ref 0), e2, some (.int d), some (.int g), some (.int f), some (.int l), some (.int b), some (.int a), e9, e10, some (plain d f l b a), some (kitK d g f l b a), some (dueV g f l b a), some (.int m), e15, e16, e17, e18]) h' ∧ 1 < m ∧ m < 32 ∧ Pen (k + 1) 0 h' := by
  obtain ⟨m, h', e, hm, p'⟩ := draw1 p (by omega) (m := 30) (by decide) (by decide)
  refine ⟨m + 2, h', ?_, by omega, by omega, p'⟩
  have q := draw_at (draw_ma (env := [e0, some (.ref 0), e2, some (.int d), some (.int g), some (.int f), some (.int l), some (.int b), some (.int a), e9, e10, some (plain d f l b a), some (kitK d g f l b a), some (dueV g f l b a), e14, e15, e16, e17, e18]) (h := h) (m := 30) rfl) rfl e
  have s : mBin .add (mC (.int 2)) (mCall 2 mf__law_draw [] (mCons (mVar 1) (mCons (mC (.int 30)) (mNil)))) [e0, some (.ref 0), e2, some (.int d), some (.int g), some (.int f), some (.int l), some (.int b), some (.int a), e9, e10, some (plain d f l b a), some (kitK d g f l b a), some (dueV g f l b a), e14, e15, e16, e17, e18] h = .ok (.int ((m + 2 : Nat) : Int)) h' := by
    rw [e_mBin, show mC (.int 2) _ h = .ok (.int 2) h from rfl, rbind_ok, q, rbind_ok, view_int, view_int, add_int, show (2 : Int) + m = ((m + 2 : Nat) : Int) by omega]
    rfl
  exact set_at s
theorem s24_ok (t : Tn d g f l b a) {m : Nat} (h1 : 1 < m) (h2 : m < 32) : m_law_24 [e0, some (.ref 0), e2, some (.int d), some (.int g), some (.int f), some (.int l), some (.int b), some (.int a), e9, e10, some (plain d f l b a), some (kitK d g f l b a), some (dueV g f l b a), some (.int m), e15, e16, e17, e18] h = .ok (.nx, [e0, some (.ref 0), e2, some (.int d), some (.int g), some (.int f), some (.int l), some (.int b), some (.int a), e9, e10, some (plain d f l b a), some (kitK d g f l b a), some (dueV g f l b a), some (.int m), e15, e16, e17, e18]) h := by
  have v14 : mVar 14 [e0, some (.ref 0), e2, some (.int d), some (.int g), some (.int f), some (.int l), some (.int b), some (.int a), e9, e10, some (plain d f l b a), some (kitK d g f l b a), some (dueV g f l b a), some (.int m), e15, e16, e17, e18] h = .ok (.int m) h := by simp
  have k12 : mVar 12 [e0, some (.ref 0), e2, some (.int d), some (.int g), some (.int f), some (.int l), some (.int b), some (.int a), e9, e10, some (plain d f l b a), some (kitK d g f l b a), some (dueV g f l b a), some (.int m), e15, e16, e17, e18] h = .ok (kitK d g f l b a) h := by simp
  have ln : mBin .mul (mLst (mCons (mC (.str "rails")) (mNil))) (mVar 14) [e0, some (.ref 0), e2, some (.int d), some (.int g), some (.int f), some (.int l), some (.int b), some (.int a), e9, e10, some (plain d f l b a), some (kitK d g f l b a), some (dueV g f l b a), some (.int m), e15, e16, e17, e18] h = .ok (.lst (List.replicate m (.str "rails"))) h := mul_rep (lst_at (by simp) (by simp)) v14 (by omega)
  have mem : ∀ x ∈ List.replicate m (IV.str "rails"), x ∈ nm4 := fun x hx => by rw [List.eq_of_mem_replicate hx]; exact in0
  have c1 := t.dw k12 ln (by simp; omega) mem
  have tn : mBin .mul (mTup (mCons (mC (.str "rails")) (mNil))) (mVar 14) [e0, some (.ref 0), e2, some (.int d), some (.int g), some (.int f), some (.int l), some (.int b), some (.int a), e9, e10, some (plain d f l b a), some (kitK d g f l b a), some (dueV g f l b a), some (.int m), e15, e16, e17, e18] h = .ok (.tup (List.replicate m (.str "rails"))) h := mul_tup (by simp) v14 h1 (by omega)
  have np : noRef (plain d f l b a) = true := nr_plain
  have m11 : (mCons (mVar 11) (mNil)) [e0, some (.ref 0), e2, some (.int d), some (.int g), some (.int f), some (.int l), some (.int b), some (.int a), e9, e10, some (plain d f l b a), some (kitK d g f l b a), some (dueV g f l b a), some (.int m), e15, e16, e17, e18] h = .ok [plain d f l b a] h := by simp
  have st := callP_at (n := 1) m11 rfl (by simp [np]) t.steps
  have v11 : mVar 11 [e0, some (.ref 0), e2, some (.int d), some (.int g), some (.int f), some (.int l), some (.int b), some (.int a), e9, e10, some (plain d f l b a), some (kitK d g f l b a), some (dueV g f l b a), some (.int m), e15, e16, e17, e18] h = .ok (plain d f l b a) h := by simp
  have args : (mCons (mVar 11) (mCons (mCallP 1 p__law_ce_steps [] (mCons (mVar 11) (mNil))) (mCons (mBin .mul (mTup (mCons (mC (.str "rails")) (mNil))) (mVar 14)) (mNil)))) [e0, some (.ref 0), e2, some (.int d), some (.int g), some (.int f), some (.int l), some (.int b), some (.int a), e9, e10, some (plain d f l b a), some (kitK d g f l b a), some (dueV g f l b a), some (.int m), e15, e16, e17, e18] h = .ok [plain d f l b a, .dic nm4 [lawI (rDd g f l 0 0), lawI (strD g b), lawI (strD g a), lawI (.of 0 0 g)], .tup (List.replicate m (.str "rails"))] h := by
    rw [e_mCons, v11, rbind_ok, e_mCons, st, rbind_ok, e_mCons, tn, rbind_ok]
    rfl
  have c2 := callP_at (n := 3) args rfl (by have n1 := nr_rep (x := IV.str "rails") rfl m; simp [np, noRef_lawI, nm4, n1]) (t.own mem)
  have vw : ∀ (z : Dd) (h : IH), cmpI .ne (view h (rowsI z)) (view h (lawI z)) = some false := fun z h => by
    have q := ne_rows_own (x := z)
    rw [view_rows, show view h (lawI z) = view [] (lawI z) by cases z <;> rfl]
    exact q
  exact if_no (cmp_no (fld12 c1) c2 (vw _ h))
end L22

/-! P22y: the law. -/
namespace L22
open PySem Iv L2
variable {d : Int} {g f l b a : Nat} {k : Int} {h : IH}
/-- what stands ahead of each turn -/
def TInv (j : Nat) (env : Iv.Env) (h : IH) : Prop := (∃ e0 e2 e3 e4 e5 e6 e7 e8 e9 e10 e11 e12 e13 e14 e15 e16 e17 e18, env = [e0, some (.ref 0), e2, e3, e4, e5, e6, e7, e8, e9, e10, e11, e12, e13, e14, e15, e16, e17, e18]) ∧ Pen (20 * j) 0 h
theorem turn_ok {j : Nat} {x : IV} {env : Iv.Env} (hj : j < 100) (I : TInv j env h) : ∃ env1, gN 2 x env = some env1 ∧ ∃ env2 h2, r_law_3 env1 h = .ok (.nx, env2) h2 ∧ TInv (j + 1) env2 h2 := by
  obtain ⟨⟨e0, e2, e3, e4, e5, e6, e7, e8, e9, e10, e11, e12, e13, e14, e15, e16, e17, e18, rfl⟩, p⟩ := I
  refine ⟨_, rfl, ?_⟩
  obtain ⟨i, h1, q3, hi, p1⟩ := s3_ok (e0 := e0) (e2 := some x) (e3 := e3) (e4 := e4) (e5 := e5) (e6 := e6) (e7 := e7) (e8 := e8) (e9 := e9) (e10 := e10) (e11 := e11) (e12 := e12) (e13 := e13) (e14 := e14) (e15 := e15) (e16 := e16) (e17 := e17) (e18 := e18) p (by omega)
  obtain ⟨g, dg⟩ : ∃ g, DGn ((i : Int) + 1) g := by
    match i, hi with
    | 0, _ => exact ⟨1, .inl ⟨rfl, rfl⟩⟩
    | 1, _ => exact ⟨3, .inr (.inl ⟨rfl, rfl⟩)⟩
    | 2, _ => exact ⟨6, .inr (.inr ⟨rfl, rfl⟩)⟩
    | n + 3, h => omega
  generalize (i : Int) + 1 = d at dg q3
  have g6 := fast_g dg
  obtain ⟨f, l, h2, q5, hf, hl, p2⟩ := s5_ok (e0 := e0) (e2 := some x) (e3 := some (.int d)) (e5 := e5) (e6 := e6) (e7 := e7) (e8 := e8) (e9 := e9) (e10 := e10) (e11 := e11) (e12 := e12) (e13 := e13) (e14 := e14) (e15 := e15) (e16 := e16) (e17 := e17) (e18 := e18) p1 (by omega) g6
  obtain ⟨b, a, h3, q6, hb, ha, p3⟩ := s6_ok (e0 := e0) (e2 := some x) (e3 := some (.int d)) (e5 := some (.int f)) (e6 := some (.int l)) (e7 := e7) (e8 := e8) (e9 := e9) (e10 := e10) (e11 := e11) (e12 := e12) (e13 := e13) (e14 := e14) (e15 := e15) (e16 := e16) (e17 := e17) (e18 := e18) p2 (by omega) g6
  have t : Tn d g f l b a := ⟨dg, hf, hl, hb, ha⟩
  obtain ⟨m, h4, q15, hm, p4⟩ := s15_ok (d := d) (g := g) (f := f) (l := l) (b := b) (a := a) (e0 := e0) (e2 := some x) (e9 := some (plS "low" b)) (e10 := some (plS "high" a)) (e14 := e14) (e15 := e15) (e16 := e16) (e17 := e17) (e18 := e18) p3 (by omega)
  obtain ⟨n, q, w, h5, q16, hw, hmq, p5⟩ := s16_ok (e0 := e0) (e2 := some x) (e9 := some (plS "low" b)) (e10 := some (plS "high" a)) (e15 := e15) (e16 := e16) (e17 := e17) (e18 := e18) t p4 (by omega) hm
  obtain ⟨h6, q21, p6⟩ := s21_ok (e0 := e0) (e2 := some x) (e9 := some (plS "low" b)) (e10 := some (plS "high" a)) (e14 := some (.int m)) (e15 := some w) (e16 := some (.int (b * (m + q : Nat)))) (e18 := e18) t p5 (by omega)
  obtain ⟨m2, h7, q23, hm1, hm2, p7⟩ := s23_ok (d := d) (g := g) (f := f) (l := l) (b := b) (a := a) (e0 := e0) (e2 := some x) (e9 := some (plS "low" b)) (e10 := some (plS "high" a)) (e14 := some (.int m)) (e15 := some w) (e16 := some (.int (b * (m + q : Nat)))) (e17 := some (fastV d g)) (e18 := e18) p6 (by omega)
  have run : r_law_3 [e0, some (.ref 0), some x, e3, e4, e5, e6, e7, e8, e9, e10, e11, e12, e13, e14, e15, e16, e17, e18] h = .ok (.nx, [e0, some (.ref 0), some x, some (.int d), some (.int g), some (.int f), some (.int l), some (.int b), some (.int a), some (plS "low" b), some (plS "high" a), some (plain d f l b a), some (kitK d g f l b a), some (dueV g f l b a), some (.int m2), some w, some (.int (b * (m + q : Nat))), some (fastV d g), e18]) h7 := by
    rw [r_law_3, mThen_nx q3, r_law_4, mThen_nx (s4_ok dg), r_law_5, mThen_nx q5, r_law_6, mThen_nx q6, r_law_7, mThen_nx (s7_ok t), r_law_8, mThen_nx (s8_ok t), r_law_9, mThen_nx (s9_ok t), r_law_10, mThen_nx (s10_ok t), r_law_11, mThen_nx (s11_ok t), r_law_13, mThen_nx (s13_ok t),
      r_law_15, mThen_nx q15, r_law_16, mThen_nx q16, r_law_17, mThen_nx (s17_ok t hw), r_law_18, mThen_nx (s18_ok t hw), r_law_20, mThen_nx (s20_ok t), r_law_21, mThen_nx q21, r_law_23, mThen_nx q23, s24_ok t hm1 hm2]
  have pn : Pen (20 * ((j + 1 : Nat) : Int)) 0 h7 := by
    obtain ⟨cs, tt, r, e, t0, t1, r0⟩ := p7
    exact ⟨cs, tt, r, e, t0, by omega, r0⟩
  exact ⟨[e0, some (.ref 0), some x, some (.int d), some (.int g), some (.int f), some (.int l), some (.int b), some (.int a), some (plS "low" b), some (plS "high" a), some (plain d f l b a), some (kitK d g f l b a), some (dueV g f l b a), some (.int m2), some w, some (.int (b * (m + q : Nat))), some (fastV d g), e18], h7, run, ⟨e0, some x, some (.int d), some (.int g), some (.int f), some (.int l), some (.int b), some (.int a), some (plS "low" b), some (plS "high" a), some (plain d f l b a), some (kitK d g f l b a), some (dueV g f l b a), some (.int m2), some w, some (.int (b * (m + q : Nat))), some (fastV d g), e18, rfl⟩, pn⟩
theorem law_ok (ns : List Int) (hl : ns.length ≤ 63) : ∃ h, mf_law [.rdl (ns.map .int)] [] = .ok (.bl true) h := by
  have pen := pen_ok (ns := ns) (h := [])
  have start : mf_law [.rdl (ns.map .int)] [] = (r_law_1 ([some (.rdl (ns.map .int))] ++ List.replicate 18 none) []).bind fun r h1 => match r with
    | (.rt v, _) => .ok v h1
    | (.nx, _) => .ok .non h1
    | _ => .bad := rfl
  have q1 : m_law_1 ([some (.rdl (ns.map .int))] ++ List.replicate 18 none) [] = .ok (.nx, [some (.rdl (ns.map .int)), some (.ref 0)] ++ List.replicate 17 none) [some (penO (ns.take 63) 0 0)] := by
    have a : (mCons (mVar 0) mNil) ([some (IV.rdl (ns.map .int))] ++ List.replicate 18 none) [] = .ok [IV.rdl (ns.map .int)] [] := rfl
    have c : mCall 1 mf__law_pen [] (mCons (mVar 0) mNil) ([some (IV.rdl (ns.map .int))] ++ List.replicate 18 none) [] = .ok (.ref 0) [some (penO (ns.take 63) 0 0)] := by
      rw [e_mCall, a, rbind_ok, List.append_nil, if_pos (show [IV.rdl (ns.map IV.int)].length = 1 from rfl), pen_eq, pen]
      rfl
    exact set_at c
  have I0 : TInv 0 ([some (.rdl (ns.map .int)), some (.ref 0)] ++ List.replicate 17 none) [some (penO (ns.take 63) 0 0)] :=
    ⟨⟨_, _, _, _, _, _, _, _, _, _, _, _, _, _, _, _, _, _, rfl⟩, _, 0, 0, rfl, Int.le_refl 0, by decide, Int.le_refl 0⟩
  obtain ⟨env', h', e, _⟩ := for_runs (I := TInv) (g := gN 2) (b := r_law_3) (xs := rngI 0 4) I0 fun j x env h hx I => turn_ok (by
    have := lt_of_at hx
    simp [rngI] at this
    omega) I
  have q2 : m_law_2 ([some (.rdl (ns.map .int)), some (.ref 0)] ++ List.replicate 17 none) [some (penO (ns.take 63) 0 0)] = .ok (.nx, env') h' := by
    rw [m_law_2, e_mFor, ← e]
    rfl
  refine ⟨h', ?_⟩
  rw [start, r_law_1, mThen_nx q1, r_law_2, mThen_nx q2]
  rfl
end L22

set_option maxHeartbeats 0
namespace L22
open PySem PySem.Spec PyProof.Rows L2 Iv
theorem facts {P : Program} {w : World} {K : PySem.W.Frag} {h : Heap} {mg : Str → Option Value} {f : Addr} (X : K.In h) (G : h.Ns mainGlobals mg) (hfa : mg ("law" : Str) = some (.ref f)) (c : He.SaysD faL fnL K) (ck : ckB K = true) :
    ∃ fd : FuncData, (∀ (s : Shared) (v : Value), BindsTo s fd ⟨[v], []⟩ [("script", v)]) ∧ ∀ base : Heap, K.In base → base.Ns mainGlobals mg → FnAt P w K mg base CX0 callerA f fd ["script"] (spM (GX P w K) 1 mf_law) := by
  obtain ⟨W⟩ := wf_of (P := P) (w := w) X G c ck
  have e := hfa.symm.trans W.g_law
  cases e
  have b := FunD.bindsA (ps := ["script"]) W.F_law fun _ _ _ _ _ _ us hl => match us, hl with | [_], _ => rfl
  exact ⟨W.fd_law, fun s v => b s [v] rfl, fun base _ _ => ok_law W⟩
end L22
open PySem PySem.W PySem.Calls PyProof.Rows
theorem PySem.Challenge.cw_insteadof_k22_whole_rails_and_strings_by_holds : PySem.Challenge.rw_insteadof_k22_whole_rails_and_strings_by.Holds := by
  w_on; o_law
  refine HandSHeadRun.head_any (r := OpenLaw.row PySem.Challenge.rw_insteadof_k22_whole_rails_and_strings_by) (q := view (OpenLaw.row PySem.Challenge.rw_insteadof_k22_whole_rails_and_strings_by).prog [106]) (H := L22.hk) (ob := L22.ob) (M := 6500) (loose := L22.nmL) (d := HandSHeadRun.topDef (OpenLaw.row PySem.Challenge.rw_insteadof_k22_whole_rails_and_strings_by).prog 106) (kwd := []) L22.ob_eq
    (by kernel_rfl) (fun s => by kernel_rfl) L22.run (by kernel_rfl) (by kernel_rfl) (by kernel_rfl) (by rfl) (by first | assumption | decide +kernel) (by decide +kernel) ⟨rfl, rfl, rfl, rfl, rfl, by decide +kernel⟩ ?hw ?hc
  case hw => w_witness2
  case hc =>
    refine Iv.walk_ofG (l := PySem.Challenge.rw_insteadof_k22_whole_rails_and_strings_by) (n := 63) (x := "script") (CX := L2.CX0) rfl (by decide) (by kernel_rfl) ?F (fun _ _ _ _ z => z)
    intro w mg fa h Y G hmg0
    obtain ⟨K, KX, c, ck⟩ := Y
    have hmg : mg ("law" : PySem.Str) = some (.ref fa) := by
      have e : (HandSHeadRun.topDef (OpenLaw.row PySem.Challenge.rw_insteadof_k22_whole_rails_and_strings_by).prog 106).name = ("law" : PySem.Str) := by kernel_rfl
      rw [← e]
      exact hmg0
    obtain ⟨fd, hb, hF⟩ := L22.facts (P := (PySem.Challenge.rw_insteadof_k22_whole_rails_and_strings_by).prog) (w := w) KX G hmg c ck
    refine ⟨K, fd, Iv.spM (L22.GX (PySem.Challenge.rw_insteadof_k22_whole_rails_and_strings_by).prog w K) 1 L22.mf_law, KX, hb, fun H a ns hl hO hS => ?_, hF⟩
    obtain ⟨h', e⟩ := L22.law_ok ns hl
    exact Iv.script_spM hO hS e

