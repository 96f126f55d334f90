import PyProof.Rows.All
import PySem.Challenge.RW_hownarrow_k03_edges_corners_labels_of_an
import HandS.ForMost
import HandS.Deep
import HandS.More
import HandS.DictComp
import HandS.Conv
import HandS.Strs
import KE.KeyNested
import HandS.Style
import HandS.Small
import HandS.TupAny
import HandS.RaiseMore
import HandS.Wide
import HandS.Text
import HandS.WordsDict
import HandS.HeadEnd
import HandS.StrMore
import PyProof.Rows.RegReprOcc
import HandS.TupSets
import HandS.Gcd
import HandS.TupLe
import HandS.Zip
import KE.SortData
import HandS.Star
import KE.KDictPairs
import KE.KDictKeyed
import KE.KDictLaw
import KE.GoesEnum
import KE.KMathG
import KE.DataMinMax
import KE.KDictSum
import KE.KDictCopyH
import HandS.SetKeys
import PyProof.SetRoads
import PyProof.Transfer
import KE.KDictDisplayH
import KE.KUnpack
import HandS.SetBool
import HandS.IsInst
import HandS.Exc
import HandS.ExcSuper
import KE.KExcSuper
import HandS.ExcCtx
import HandS.HotCalls
import PyProof.Rows.Digits
import KE.GoesNew
import PyProof.RowDictHeap
set_option Elab.async false
set_option linter.all false
set_option maxRecDepth 100000
set_option maxHeartbeats 4000000
namespace DL
open PySem PySem.Spec PyProof.Rows L2
abbrev Sl := L2.St
abbrev NK := PySem.NestedKey
/-- plain data -/
inductive D where
  | non | bl (b : Bool) | int (i : Int) | str (x : Str)
  | tup (ds : List D) | lst (ds : List D)
  | dK (kvs : List (Key × D)) | dT (kvs : List (NK × D)) | bag
  | tn (ds : List D)
/-- what the law's bag holds -/
structure Bg where
  c0 : Int
  c1 : Int
  c2 : Int
  cs : List Int
/-- the written part, the program, the world -/
structure Kx where
  fr : PySem.W.Frag
  P : Program
  w : World
instance : Coe Kx PySem.W.Frag := ⟨Kx.fr⟩
/-- where the bag lies; the written part -/
structure Bs where
  b : Addr
  l : Addr
  K : Kx
abbrev _root_.L2.Cx.kx (X : L2.Cx) : Kx := ⟨X.K, X.prog, X.w⟩
theorem kxf {k : Kx} {X : L2.Cx} (h : k = X.kx) : k.fr = X.K := congrArg Kx.fr h
theorem sqt_same {K : PySem.W.Frag} {H H' : Hp} {a : Addr} {xs : List V} (e : Same H H') (h : SqT K H a xs) : SqT K H' a xs := by
  rcases h with (h | ⟨o, h⟩) | h
  · exact Or.inl (Or.inl (e _ _ h))
  · exact Or.inl (Or.inr ⟨o, e _ _ h⟩)
  · exact Or.inr h
/-- a tuple known to have no dict of its own -/
def NdT (F : Hp) (a : Addr) (vs : List V) : Prop := ∃ o : Obj, F a = some (.frz o (.tup vs)) ∧ o.cls = .type "tuple" ∧ o.dict = none
theorem ndt_same {F F' : Hp} {a : Addr} {vs : List V} (e : Same F F') (h : NdT F a vs) : NdT F' a vs := let ⟨o, h1, h2⟩ := h; ⟨o, e _ _ h1, h2⟩
theorem NdT.sqt {K : PySem.W.Frag} {F : Hp} {a : Addr} {vs : List V} (h : NdT F a vs) : SqT K F a vs := let ⟨o, h1, _⟩ := h; .inl (.inr ⟨o, h1⟩)
mutual
/-- the value v stands for the key k -/
inductive NkV (K : PySem.W.Frag) (H : Hp) : V → NK → Prop
  | non : NkV K H .non .none
  | int (i : Int) : NkV K H (.int i) (.num i)
  | str (x : Str) : NkV K H (.str x) (.text x)
  | tup {a : Addr} {vs : List V} {ks : List NK} : SqT K H a vs → NkVs K H vs ks → NkV K H (.ref a) (.tup ks)
inductive NkVs (K : PySem.W.Frag) (H : Hp) : List V → List NK → Prop
  | nil : NkVs K H [] []
  | cons {v : V} {vs : List V} {k : NK} {ks : List NK} : NkV K H v k → NkVs K H vs ks → NkVs K H (v :: vs) (k :: ks)
end
section
variable {K : PySem.W.Frag} {H H' : Hp}
mutual
theorem NkV.mono (e : Same H H') : ∀ {v : V} {k : NK}, NkV K H v k → NkV K H' v k
  | _, _, .non => .non
  | _, _, .int i => .int i
  | _, _, .str x => .str x
  | _, _, .tup a r => .tup (sqt_same e a) (NkVs.mono e r)
theorem NkVs.mono (e : Same H H') : ∀ {v : List V} {k : List NK}, NkVs K H v k → NkVs K H' v k
  | _, _, .nil => .nil
  | _, _, .cons a r => .cons (NkV.mono e a) (NkVs.mono e r)
end
end
/-- at b stands a tuple that is the key k -/
def KyT (K : PySem.W.Frag) (H : Hp) (b : Addr) (k : NK) : Prop := NkV K H (.ref b) k ∧ k.depth ≤ 8
theorem KyT.mono {K : PySem.W.Frag} {H H' : Hp} {b : Addr} {k : NK} (e : Same H H') (h : KyT K H b k) : KyT K H' b k := ⟨h.1.mono e, h.2⟩
/-- a dict with tuples for keys, by its entries -/
def DTo (P : Program) (w : World) (p : Addr) (xs : List (NK × Addr × Value)) : HO := .ext fun h => (p == sysModules) = false ∧ ∃ o es ep, h.get? p = some o ∧ o.ExactDict ∧ o.data = .dict es ep ∧ es.toList = xs.map (entryOfKey (nestedKind P w)) ∧ (xs.map (·.1)).Nodup
/-- .. its keys over the settled heap, its values -/
def DTk (k : Kx) (F : Hp) (xs : List (NK × Addr × Value)) (vs : List (NK × V)) : Prop := (∀ x ∈ xs, KyT k F x.2.1 x.1) ∧ KV vs (xs.map fun x => (x.1, x.2.2))
theorem DTk.mono {k : Kx} {F F' : Hp} {xs : List (NK × Addr × Value)} {vs : List (NK × V)} (e : Same F F') (h : DTk k F xs vs) : DTk k F' xs vs := ⟨fun x hx => (h.1 x hx).mono e, h.2⟩
mutual
/-- the value v stands for the datum d over the settled heap F; z: where the bag lies, the written part -/
inductive Den (z : Bs) (F : Hp) : V → D → Prop
  | non : Den z F .non .non
  | bl (k : Bool) : Den z F (.bl k) (.bl k)
  | int (i : Int) : Den z F (.int i) (.int i)
  | str (x : Str) : Den z F (.str x) (.str x)
  | tup {a : Addr} {vs : List V} {ds : List D} : SqT z.K F a vs → Dens z F vs ds → Den z F (.ref a) (.tup ds)
  | lst {a : Addr} {vs : List V} {ds : List D} : F a = some (.lst vs) → Dens z F vs ds → Den z F (.ref a) (.lst ds)
  | dK {a : Addr} {ob : Obj} {vs : List (Key × V)} {ds : List (Key × D)} : F a = some (.frz ob (.dK vs)) → DenK z F vs ds → Den z F (.ref a) (.dK ds)
  | dT {a p : Addr} {ob : Obj} {xs : List (NK × Addr × Value)} {vs : List (NK × V)} {ds : List (NK × D)} : F a = some (.frz ob (DTo z.K.P z.K.w p xs)) → DTk z.K F xs vs → DenT z F vs ds → Den z F (.ref a) (.dT ds)
  | bag : Den z F (.ref z.b) .bag
  | tn {a : Addr} {vs : List V} {ds : List D} : NdT F a vs → Dens z F vs ds → Den z F (.ref a) (.tn ds)
inductive Dens (z : Bs) (F : Hp) : List V → List D → Prop
  | nil : Dens z F [] []
  | cons {v : V} {vs : List V} {d : D} {ds : List D} : Den z F v d → Dens z F vs ds → Dens z F (v :: vs) (d :: ds)
inductive DenK (z : Bs) (F : Hp) : List (Key × V) → List (Key × D) → Prop
  | nil : DenK z F [] []
  | cons {k : Key} {v : V} {vs : List (Key × V)} {d : D} {ds : List (Key × D)} : Den z F v d → DenK z F vs ds → DenK z F ((k, v) :: vs) ((k, d) :: ds)
inductive DenT (z : Bs) (F : Hp) : List (NK × V) → List (NK × D) → Prop
  | nil : DenT z F [] []
  | cons {k : NK} {v : V} {vs : List (NK × V)} {d : D} {ds : List (NK × D)} : Den z F v d → DenT z F vs ds → DenT z F ((k, v) :: vs) ((k, d) :: ds)
end
section
variable {z : Bs} {F F' : Hp}
mutual
theorem Den.mono (h : Same F F') : ∀ {v : V} {d : D}, Den z F v d → Den z F' v d
  | _, _, .non => .non
  | _, _, .bl k => .bl k
  | _, _, .int i => .int i
  | _, _, .str x => .str x
  | _, _, .tup e r => .tup (sqt_same h e) (Dens.mono h r)
  | _, _, .lst e r => .lst (h _ _ e) (Dens.mono h r)
  | _, _, .dK e r => .dK (h _ _ e) (DenK.mono h r)
  | _, _, .dT e q r => .dT (h _ _ e) (q.mono h) (DenT.mono h r)
  | _, _, .bag => .bag
  | _, _, .tn e r => .tn (ndt_same h e) (Dens.mono h r)
theorem Dens.mono (h : Same F F') : ∀ {v : List V} {d : List D}, Dens z F v d → Dens z F' v d
  | _, _, .nil => .nil
  | _, _, .cons a r => .cons (Den.mono h a) (Dens.mono h r)
theorem DenK.mono (h : Same F F') : ∀ {v : List (Key × V)} {d : List (Key × D)}, DenK z F v d → DenK z F' v d
  | _, _, .nil => .nil
  | _, _, .cons a r => .cons (Den.mono h a) (DenK.mono h r)
theorem DenT.mono (h : Same F F') : ∀ {v : List (NK × V)} {d : List (NK × D)}, DenT z F v d → DenT z F' v d
  | _, _, .nil => .nil
  | _, _, .cons a r => .cons (Den.mono h a) (DenT.mono h r)
end
end
section
variable {z : Bs} {F : Hp}
theorem Dens.length : ∀ {vs : List V} {ds : List D}, Dens z F vs ds → vs.length = ds.length
  | _, _, .nil => rfl
  | _, _, .cons _ r => congrArg (· + 1) (Dens.length r)
theorem Dens.get : ∀ {vs : List V} {ds : List D} {i : Nat} {d : D}, Dens z F vs ds → ds[i]? = some d → ∃ v, vs[i]? = some v ∧ Den z F v d
  | _, _, _, _, .nil, e => by simp at e
  | _, _, 0, _, .cons a _, e => ⟨_, rfl, by simp at e; exact e ▸ a⟩
  | _, _, i + 1, _, .cons _ r, e => by simpa using Dens.get (i := i) r (by simpa using e)
theorem Dens.get' : ∀ {vs : List V} {ds : List D} {i : Nat} {v : V}, Dens z F vs ds → vs[i]? = some v → ∃ d, ds[i]? = some d ∧ Den z F v d
  | _, _, _, _, .nil, e => by simp at e
  | _, _, 0, _, .cons a _, e => ⟨_, rfl, by simp at e; exact e ▸ a⟩
  | _, _, i + 1, _, .cons _ r, e => by simpa using Dens.get' (i := i) r (by simpa using e)
theorem Dens.append : ∀ {vs ws : List V} {ds es : List D}, Dens z F vs ds → Dens z F ws es → Dens z F (vs ++ ws) (ds ++ es)
  | _, _, _, _, .nil, q => q
  | _, _, _, _, .cons a r, q => .cons a (Dens.append r q)
theorem Dens.take : ∀ {vs : List V} {ds : List D} (n : Nat), Dens z F vs ds → Dens z F (vs.take n) (ds.take n)
  | _, _, 0, _ => .nil
  | _, _, _ + 1, .nil => .nil
  | _, _, n + 1, .cons a r => .cons a (Dens.take n r)
theorem Dens.drop : ∀ {vs : List V} {ds : List D} (n : Nat), Dens z F vs ds → Dens z F (vs.drop n) (ds.drop n)
  | _, _, 0, r => r
  | _, _, _ + 1, .nil => .nil
  | _, _, n + 1, .cons _ r => Dens.drop n r
theorem Dens.one {v : V} {d : D} (h : Den z F v d) : Dens z F [v] [d] := .cons h .nil
theorem Dens.set {v : V} {d : D} (h : Den z F v d) : ∀ {vs : List V} {ds : List D} (n : Nat), Dens z F vs ds → Dens z F (vs.set n v) (ds.set n d)
  | _, _, _, .nil => .nil
  | _, _, 0, .cons _ r => .cons h r
  | _, _, n + 1, .cons a r => .cons a (Dens.set h n r)
theorem Dens.reverse : ∀ {vs : List V} {ds : List D}, Dens z F vs ds → Dens z F vs.reverse ds.reverse
  | _, _, .nil => .nil
  | _, _, .cons a r => by
    rw [List.reverse_cons, List.reverse_cons]
    exact (Dens.reverse r).append (.one a)
theorem Dens.ints_mk : ∀ (ns : List Int), Dens z F (ns.map V.int) (ns.map D.int)
  | [] => .nil
  | n :: ns => .cons (.int n) (Dens.ints_mk ns)
end
/-- the bag lies at b, its cells are settled -/
def BagAt (z : Bs) (F H : Hp) (B : Bg) : Prop := F z.b = none ∧ H z.b = some (.lst [.int B.c0, .int B.c1, .int B.c2, .ref z.l]) ∧ F z.l = some (.lst (B.cs.map V.int))
/-- from (F, H) to (F', H'): what was settled is so, what stood stands but for the bag; what was tracked and not settled is not settled -/
structure Grow (z : Bs) (F H F' H' : Hp) : Prop where
  le : Same F F'
  sub : Same F' H'
  keep : ∀ a o, a ≠ z.b → H a = some o → H' a = some o
  nf : ∀ a, a ≠ z.b → F a = none → H a ≠ none → F' a = none
theorem Grow.refl {z : Bs} {F H : Hp} (h : Same F H) : Grow z F H F H := ⟨Same.refl _, h, fun _ _ _ e => e, fun _ _ e _ => e⟩
theorem some_of {α : Type} {x : Option α} (h : x ≠ none) : ∃ y, x = some y := by
  cases x with
  | none => exact absurd rfl h
  | some y => exact ⟨y, rfl⟩
theorem Grow.stood {z : Bs} {F H F' H' : Hp} (g : Grow z F H F' H') {a : Addr} (ha : a ≠ z.b) (h : H a ≠ none) : H' a ≠ none := by
  obtain ⟨o, e⟩ := some_of h
  rw [g.keep a o ha e]
  exact fun q => nomatch q
theorem Grow.trans {z : Bs} {F H F1 H1 F2 H2 : Hp} (g : Grow z F H F1 H1) (k : Grow z F1 H1 F2 H2) : Grow z F H F2 H2 :=
  ⟨g.le.trans k.le, k.sub, fun a o ha e => k.keep a o ha (g.keep a o ha e), fun a ha e n => k.nf a ha (g.nf a ha e n) (g.stood ha n)⟩
/-- what an object that may still change stands for -/
inductive OwnC (z : Bs) (F : Hp) : HO → D → Prop
  | lst {vs : List V} {ds : List D} : Dens z F vs ds → OwnC z F (.lst vs) (.lst ds)
  | dK {vs : List (Key × V)} {ds : List (Key × D)} : DenK z F vs ds → OwnC z F (.dK vs) (.dK ds)
  | dT {p : Addr} {xs : List (NK × Addr × Value)} {vs : List (NK × V)} {ds : List (NK × D)} : DTk z.K F xs vs → DenT z F vs ds → OwnC z F (DTo z.K.P z.K.w p xs) (.dT ds)
theorem OwnC.mono {z : Bs} {F F' : Hp} (h : Same F F') {o : HO} {d : D} (c : OwnC z F o d) : OwnC z F' o d := by
  cases c with
  | lst r => exact .lst (r.mono h)
  | dK r => exact .dK (r.mono h)
  | dT q r => exact .dT (q.mono h) (r.mono h)
/-- from here on locked: what is settled is locked, where it is a dict -/
inductive Lk (P : Hp → Prop) : Hp → Prop
  | here {H : Hp} : P H → Lk P H
  | step {H : Hp} {d : Addr} {u : HO} : H d = some u → Mut (some u) → (∀ od, Lk P (upd H d (.frz od u))) → Lk P H
theorem Lk.bind {P Q : Hp → Prop} {H : Hp} (h : Lk P H) (k : ∀ H, P H → Lk Q H) : Lk Q H := by
  induction h with
  | here p => exact k _ p
  | step e m _ ih => exact .step e m ih
theorem upd_self {H : Hp} {a : Addr} {o : HO} (h : H a = some o) : upd H a o = H := by
  funext c
  by_cases e : c = a
  · subst e
    rw [upd_same, h]
  · rw [upd_ne e]
/-- an object is settled: a list as it is, a dict locked -/
theorem Lk.settle {z : Bs} {F H : Hp} {o : HO} {d : D} {a : Addr} {P : Hp → Prop} (c : OwnC z F o d) (h : H a = some o) (nf : F a = none) (k : ∀ o', (o' = o ∨ ∃ ob, o' = .frz ob o) → Den z (upd F a o') (.ref a) d → P (upd H a o')) : Lk P H := by
  have s : ∀ o', Same F (upd F a o') := fun o' c u e => by
    rw [upd_ne (ne_of_none e nf)]
    exact e
  cases c with
  | lst r =>
    refine .here ?_
    have q := k _ (.inl rfl) (.lst upd_same (r.mono (s _)))
    rw [upd_self h] at q
    exact q
  | dK r => exact .step h trivial fun od => .here (k _ (.inr ⟨od, rfl⟩) (.dK upd_same (r.mono (s _))))
  | dT q r => exact .step h trivial fun od => .here (k _ (.inr ⟨od, rfl⟩) (.dT upd_same (q.mono (s _)) (r.mono (s _))))
abbrev Env := List (Option D)
abbrev Mk := List Bool
abbrev isOw (m : Mk) (i : Nat) : Prop := m.getD i false = true
/-- what a body's proof carries without change: where the bag lies, the slots that are walked by a loop around with their objects, the heaps at the entry -/
structure Wd where
  z : Bs
  R : List (Nat × Addr)
  F0 : Hp
  H0 : Hp
/-- slot i holds an object that may still change -/
structure OwnAt (w : Wd) (F H : Hp) (σ : Sl) (i : Nat) (d : D) (a : Addr) (o : HO) : Prop where
  sl : σ[i]? = some (some (.ref a))
  nb : a ≠ w.z.b
  nf : F a = none
  at_ : H a = some o
  c : OwnC w.z F o d
  new : w.H0 a = none
structure RoAt (w : Wd) (F H : Hp) (σ : Sl) (ρ : Env) (p : Nat × Addr) : Prop where
  sl : σ[p.1]? = some (some (.ref p.2))
  nb : p.2 ≠ w.z.b
  nf : F p.2 = none
  c : ∃ o d, ρ[p.1]? = some (some d) ∧ w.H0 p.2 = some o ∧ OwnC w.z F o d
/-- the data in the slots (ρ), the bag (B), over the slots σ and the heap H; ow: the slots whose objects may change -/
structure Rel (w : Wd) (ow : Mk) (ρ : Env) (B : Bg) (F H : Hp) (σ : Sl) : Prop where
  gr : Grow w.z w.F0 w.H0 F H
  bag : BagAt w.z F H B
  set : ∀ i d, ¬ isOw ow i → i ∉ w.R.map (·.1) → ρ[i]? = some (some d) → ∃ v, σ[i]? = some (some v) ∧ Den w.z F v d
  own : ∀ i d, isOw ow i → i ∉ w.R.map (·.1) → ρ[i]? = some (some d) → ∃ a o, OwnAt w F H σ i d a o
  apart : ∀ i j a d e, isOw ow i → isOw ow j → i ≠ j → i ∉ w.R.map (·.1) → j ∉ w.R.map (·.1) → ρ[i]? = some (some d) → ρ[j]? = some (some e) → σ[i]? = some (some (.ref a)) → σ[j]? ≠ some (some (.ref a))
  ro : ∀ p ∈ w.R, RoAt w F H σ ρ p
  len : ρ.length = σ.length
theorem Rel.sub {w : Wd} {ow : Mk} {ρ : Env} {B : Bg} {F H : Hp} {σ : Sl} (r : Rel w ow ρ B F H σ) : Same F H := r.gr.sub
/-- behind an expression -/
theorem Rel.grow {w : Wd} {ow : Mk} {ρ : Env} {B B' : Bg} {F H F' H' : Hp} {σ : Sl} (r : Rel w ow ρ B F H σ) (g : Grow w.z F H F' H') (hb : BagAt w.z F' H' B') : Rel w ow ρ B' F' H' σ where
  gr := r.gr.trans g
  bag := hb
  set := fun i d h1 h2 h3 => let ⟨v, e, q⟩ := r.set i d h1 h2 h3; ⟨v, e, q.mono g.le⟩
  own := fun i d h1 h2 h3 => let ⟨a, o, q⟩ := r.own i d h1 h2 h3; ⟨a, o, q.sl, q.nb, g.nf a q.nb q.nf (by rw [q.at_]; exact fun q => nomatch q), g.keep a o q.nb q.at_, q.c.mono g.le, q.new⟩
  apart := r.apart
  ro := fun p hp =>
    let q := r.ro p hp
    let ⟨o, d, e, h0, c⟩ := q.c
    ⟨q.sl, q.nb, g.nf _ q.nb q.nf (by rw [r.gr.keep _ _ q.nb h0]; exact fun q => nomatch q), o, d, e, h0, c.mono g.le⟩
  len := r.len
/-- fresh: a new object, not settled; st: settled; bo: settled, or an object of a slot, to be read at once -/
inductive Mo where
  | fr | st | bo
def Own (z : Bs) (F H : Hp) (v : V) (d : D) : Prop := ∃ a o, v = .ref a ∧ a ≠ z.b ∧ F a = none ∧ H a = some o ∧ OwnC z F o d
def Res (m : Mo) (z : Bs) (H F' H' : Hp) (v : V) (d : D) : Prop :=
  match m with
  | .fr => ∃ a o, v = .ref a ∧ a ≠ z.b ∧ H a = none ∧ F' a = none ∧ H' a = some o ∧ OwnC z F' o d
  | .st => Den z F' v d
  | .bo => Den z F' v d ∨ Own z F' H' v d
theorem Own.grow {z : Bs} {F H F' H' : Hp} {v : V} {d : D} (o : Own z F H v d) (g : Grow z F H F' H') : Own z F' H' v d :=
  let ⟨a, q, e, nb, nf, h, c⟩ := o
  ⟨a, q, e, nb, g.nf a nb nf (by rw [h]; exact fun q => nomatch q), g.keep a q nb h, c.mono g.le⟩
/-- a result, behind more -/
theorem Res.grow {m : Mo} {z : Bs} {H F1 H1 F2 H2 : Hp} {v : V} {d : D} (r : Res m z H F1 H1 v d) (g : Grow z F1 H1 F2 H2) : Res m z H F2 H2 v d := by
  cases m with
  | fr =>
    obtain ⟨a, q, e, nb, n, nf, h, c⟩ := r
    exact ⟨a, q, e, nb, n, g.nf a nb nf (by rw [h]; exact fun q => nomatch q), g.keep a q nb h, c.mono g.le⟩
  | st => exact Den.mono g.le r
  | bo =>
    rcases r with r | r
    · exact .inl (Den.mono g.le r)
    · exact .inr (r.grow g)
/-- .. seen from further back -/
theorem Res.back {m : Mo} {z : Bs} {F H F1 H1 F2 H2 : Hp} {v : V} {d : D} (g : Grow z F H F1 H1) (r : Res m z H1 F2 H2 v d) : Res m z H F2 H2 v d := by
  cases m with
  | fr =>
    obtain ⟨a, q, e, nb, n, nf, h, c⟩ := r
    refine ⟨a, q, e, nb, ?_, nf, h, c⟩
    cases z : H a with
    | none => rfl
    | some u =>
      rw [g.keep a u nb z] at n
      cases n
  | st => exact r
  | bo => exact r
abbrev Ex := Env → Bg → Option (D × Bg)
/-- the canonical reading of an expression that computes f -/
def canE (K : Kx) (m : Mo) (ow : Mk) (ro : List Nat) (f : Ex) : TE := fun σ H Q => ∃ (w : Wd) (ρ : Env) (B : Bg) (F : Hp) (d : D) (B' : Bg), w.z.K = K ∧ w.R.map (·.1) = ro ∧ Rel w ow ρ B F H σ ∧ f ρ B = some (d, B') ∧
  ∀ v F' H', Grow w.z F H F' H' → BagAt w.z F' H' B' → Res m w.z H F' H' v d → Q v H'
/-- the expression e computes f -/
def PV (m : Mo) (ow : Mk) (ro : List Nat) (X : Cx) (e : Expr) (f : Ex) : Prop := PE X e (canE X.kx m ow ro f)
theorem pe_weak {X : Cx} {e : Expr} {t u : TE} (h : PE X e t) (i : ∀ σ H Q, u σ H Q → t σ H Q) : PE X e u := ⟨fun pins s σ H Q I q => h.run pins s σ H Q I (i σ H Q q)⟩
theorem pt_weak {X : Cx} {e : Expr} {t u : TT} (h : PT X e t) (i : ∀ σ H Q, u σ H Q → t σ H Q) : PT X e u := ⟨fun pins s σ H Q I q => h.run pins s σ H Q I (i σ H Q q)⟩
theorem pa_weak {X : Cx} {e : List Expr} {t u : TA} (h : PA X e t) (i : ∀ σ H Q, u σ H Q → t σ H Q) : PA X e u := ⟨fun p pins s σ H Q I q => h.run p pins s σ H Q I (i σ H Q q)⟩
theorem ps_weak {X : Cx} {e : Stmt} {t u : TS} (h : PS X e t) (i : ∀ E σ H, u E σ H → t E σ H) : PS X e u := ⟨fun pins s σ H E I q => h.run pins s σ H E I (i E σ H q)⟩
theorem pss_weak {X : Cx} {e : List Stmt} {t u : TS} (h : PSs X e t) (i : ∀ E σ H, u E σ H → t E σ H) : PSs X e u := ⟨fun pins s σ H E I q => h.run pins s σ H E I (i E σ H q)⟩
theorem pg_weak {X : Cx} {e : Expr} {t u : TG} (h : PG X e t) (i : ∀ v σ H Q, u v σ H Q → t v σ H Q) : PG X e u := ⟨fun pins s σ H v x Q I r q => h.run pins s σ H v x Q I r (i v σ H Q q)⟩
theorem pi_weak {X : Cx} {tg e : Expr} {t u : TI} (h : PI X tg e t) (i : ∀ σ H Q, u σ H Q → t σ H Q) : PI X tg e u := ⟨fun pins s σ H Q I q => h.run pins s σ H Q I (i σ H Q q)⟩
theorem upd_other {H : Hp} {a p : Addr} {o : HO} (h : H p = none) {u : HO} (e : H a = some u) : upd H p o a = some u := by
  rw [upd_ne (ne_of_none e h)]
  exact e
/-- settling a new object -/
theorem Grow.settle {z : Bs} {F H F' H' : Hp} (g : Grow z F H F' H') {a : Addr} {o : HO} (nb : a ≠ z.b) (n : H a = none) (h : H' a = some o) : Grow z F H (upd F' a o) H' where
  le := fun c u e => by
    by_cases z : c = a
    · subst z
      have e1 : F' c = some u := g.le c u e
      have e2 := g.sub c u e1
      rw [h] at e2
      cases e2
      exact upd_same
    · rw [upd_ne z]
      exact g.le c u e
  sub := fun c u e => by
    by_cases z : c = a
    · subst z
      rw [upd_same] at e
      cases e
      exact h
    · rw [upd_ne z] at e
      exact g.sub c u e
  keep := g.keep
  nf := fun c hc e k => by
    by_cases z : c = a
    · subst z
      exact absurd n k
    · rw [upd_ne z]
      exact g.nf c hc e k
theorem same_upd_free {F : Hp} {a : Addr} {o : HO} (n : F a = none) : Same F (upd F a o) := fun c u e => upd_other n e
theorem BagAt.settle {z : Bs} {F H : Hp} {B : Bg} (x : BagAt z F H B) {a : Addr} {o : HO} (nb : a ≠ z.b) (n : F a = none) : BagAt z (upd F a o) H B := by
  obtain ⟨h1, h2, h3⟩ := x
  exact ⟨by rw [upd_ne nb.symm]; exact h1, h2, upd_other n h3⟩
/-- settling a new object in a form of its own -/
theorem Grow.settleZ {z : Bs} {F H F' H' : Hp} (g : Grow z F H F' H') {a : Addr} {o' : HO} (n : H a = none) (nf : F' a = none) : Grow z F H (upd F' a o') (upd H' a o') where
  le := fun c u e => by
    have e1 : F' c = some u := g.le c u e
    rw [upd_ne (ne_of_none e1 nf)]
    exact e1
  sub := fun c u e => by
    by_cases z : c = a
    · subst z
      rw [upd_same] at e ⊢
      exact e
    · rw [upd_ne z] at e ⊢
      exact g.sub c u e
  keep := fun c u nb e => by
    rw [upd_ne (ne_of_none e n)]
    exact g.keep c u nb e
  nf := fun c hc e k => by
    by_cases z : c = a
    · subst z
      exact absurd n k
    · rw [upd_ne z]
      exact g.nf c hc e k
theorem BagAt.settleZ {z : Bs} {F H : Hp} {B : Bg} (x : BagAt z F H B) {a : Addr} {o' : HO} (nb : a ≠ z.b) (n : F a = none) : BagAt z (upd F a o') (upd H a o') B := by
  obtain ⟨h1, h2, h3⟩ := x
  exact ⟨by rw [upd_ne nb.symm]; exact h1, by rw [upd_ne nb.symm]; exact h2, by rw [upd_ne (ne_of_none h3 n)]; exact h3⟩
theorem BagAt.stood {z : Bs} {F H : Hp} {B : Bg} (x : BagAt z F H B) : H z.b ≠ none := by
  obtain ⟨_, h2, _⟩ := x
  rw [h2]
  exact fun q => nomatch q
/-- a new object at p, the bag as it is -/
theorem BagAt.laid {z : Bs} {F H : Hp} {B : Bg} (x : BagAt z F H B) {p : Addr} {o : HO} (n : H p = none) : BagAt z F (upd H p o) B := by
  obtain ⟨h1, h2, h3⟩ := x
  exact ⟨h1, upd_other n h2, h3⟩
theorem free_of {F H : Hp} (s : Same F H) {p : Addr} (n : H p = none) : F p = none := s.free n
/-- a new object laid, not settled -/
theorem Grow.laid {z : Bs} {F H : Hp} (s : Same F H) {p : Addr} {o : HO} (n : H p = none) : Grow z F H F (upd H p o) where
  le := Same.refl F
  sub := s.trans (same_upd_free n)
  keep := fun a u _ e => upd_other n e
  nf := fun a _ e _ => e
/-- .. and settled -/
theorem Grow.laidS {z : Bs} {F H : Hp} (s : Same F H) {p : Addr} {o : HO} (n : H p = none) : Grow z F H (upd F p o) (upd H p o) where
  le := same_upd_free (free_of s n)
  sub := fun c u e => by
    by_cases z : c = p
    · subst z
      rw [upd_same] at e ⊢
      exact e
    · rw [upd_ne z] at e ⊢
      exact s c u e
  keep := fun a u _ e => upd_other n e
  nf := fun a _ e k => by
    by_cases z : a = p
    · subst z
      exact absurd n k
    · rw [upd_ne z]
      exact e
theorem BagAt.laidS {z : Bs} {F H : Hp} {B : Bg} (x : BagAt z F H B) (s : Same F H) {p : Addr} {o : HO} (n : H p = none) : BagAt z (upd F p o) (upd H p o) B := by
  have nb : p ≠ z.b := fun q => x.stood (q ▸ n)
  exact (x.laid n).settle nb (free_of s n)
section
variable {X : Cx} {e : Expr} {ow : Mk} {ro : List Nat} {f : Ex} {m : Mo}
theorem PV.of {t : TE} (h : PE X e t) (i : ∀ (w : Wd) (ρ : Env) (B : Bg) (F H : Hp) (σ : Sl) (d : D) (B' : Bg), w.z.K = X.kx → w.R.map (·.1) = ro → Rel w ow ρ B F H σ → f ρ B = some (d, B') →
    ∀ Q : VK, (∀ v F' H', Grow w.z F H F' H' → BagAt w.z F' H' B' → Res m w.z H F' H' v d → Q v H') → t σ H Q) : PV m ow ro X e f :=
  pe_weak h fun σ H Q ⟨w, ρ, B, F, d, B', hK, hR, r, hf, k⟩ => i w ρ B F H σ d B' hK hR r hf Q k
theorem pe_lk {X : Cx} {e : Expr} {t : TE} (h : PE X e t) : PE X e (fun σ H Q => t σ H fun v H' => Lk (Q v) H') := by
  refine ⟨fun pins s σ H Q I q => thn (h.run pins s σ H _ I q) ?_⟩
  rintro v s1 ⟨x, H1, I1, r, q⟩
  revert I1
  generalize hP : Q x = P at q
  intro I1
  induction q with
  | here p => exact ⟨x, _, I1, r, hP ▸ p⟩
  | step e m _ ih =>
    obtain ⟨od, I2⟩ := I1.lock e m
    exact ih od I2
/-- a new object is settled -/
theorem PV.settle (h : PV .fr ow ro X e f) : PV .st ow ro X e f :=
  PV.of (pe_lk h) fun w ρ B F H σ d B' hK hR r hf Q k => ⟨w, ρ, B, F, d, B', hK, hR, r, hf, fun v F' H' g bg ⟨a, o, ev, nb, n, nf, h, c⟩ => by
    subst ev
    exact Lk.settle c h nf fun o' _ den => k _ _ _ (g.settleZ n nf) (bg.settleZ nb nf) den⟩
theorem PV.bor (h : PV .st ow ro X e f) : PV .bo ow ro X e f :=
  PV.of h fun w ρ B F H σ d B' hK hR r hf Q k => ⟨w, ρ, B, F, d, B', hK, hR, r, hf, fun v F' H' g bg q => k v F' H' g bg (.inl q)⟩
theorem PV.borF (h : PV .fr ow ro X e f) : PV .bo ow ro X e f := h.settle.bor
end
end DL
namespace DL
open PySem PySem.Spec PyProof.Rows L2
abbrev Bor (z : Bs) (F H : Hp) (v : V) (d : D) : Prop := Den z F v d ∨ Own z F H v d
section
variable {z : Bs} {F H : Hp} {v : V}
theorem Bor.int {i : Int} (h : Bor z F H v (.int i)) : v = .int i := by
  rcases h with h | ⟨a, o, e, _, _, _, c⟩
  · cases h; rfl
  · cases c
theorem Bor.str {x : Str} (h : Bor z F H v (.str x)) : v = .str x := by
  rcases h with h | ⟨a, o, e, _, _, _, c⟩
  · cases h; rfl
  · cases c
theorem Bor.bl {k : Bool} (h : Bor z F H v (.bl k)) : v = .bl k := by
  rcases h with h | ⟨a, o, e, _, _, _, c⟩
  · cases h; rfl
  · cases c
theorem Bor.non (h : Bor z F H v .non) : v = .non := by
  rcases h with h | ⟨a, o, e, _, _, _, c⟩
  · cases h; rfl
  · cases c
theorem Bor.tup {ds : List D} (h : Bor z F H v (.tup ds)) : ∃ a vs, v = .ref a ∧ SqT z.K F a vs ∧ Dens z F vs ds := by
  rcases h with h | ⟨a, o, e, _, _, _, c⟩
  · cases h with
    | tup h r => exact ⟨_, _, rfl, h, r⟩
  · cases c
theorem Bor.tn {ds : List D} (h : Bor z F H v (.tn ds)) : ∃ a vs, v = .ref a ∧ NdT F a vs ∧ Dens z F vs ds := by
  rcases h with h | ⟨a, o, e, _, _, _, c⟩
  · cases h with
    | tn h r => exact ⟨_, _, rfl, h, r⟩
  · cases c
theorem Bor.lst {ds : List D} (s : Same F H) (h : Bor z F H v (.lst ds)) : ∃ a vs, v = .ref a ∧ H a = some (.lst vs) ∧ Dens z F vs ds := by
  rcases h with h | ⟨a, o, e, _, _, h, c⟩
  · cases h with
    | lst h r => exact ⟨_, _, rfl, s _ _ h, r⟩
  · cases c with
    | lst r => exact ⟨_, _, e, h, r⟩
theorem Bor.dK {ds : List (Key × D)} (s : Same F H) (h : Bor z F H v (.dK ds)) : ∃ a vs, v = .ref a ∧ Rd H a (.dK vs) ∧ DenK z F vs ds := by
  rcases h with h | ⟨a, o, e, _, _, h, c⟩
  · cases h with
    | dK h r => exact ⟨_, _, rfl, .inr ⟨_, s _ _ h⟩, r⟩
  · cases c with
    | dK r => exact ⟨_, _, e, .inl h, r⟩
theorem Bor.dT {ds : List (NK × D)} (s : Same F H) (h : Bor z F H v (.dT ds)) : ∃ a p xs vs, v = .ref a ∧ Rd H a (DTo z.K.P z.K.w p xs) ∧ DTk z.K F xs vs ∧ DenT z F vs ds := by
  rcases h with h | ⟨a, o, e, _, _, h, c⟩
  · cases h with
    | dT h q r => exact ⟨_, _, _, _, rfl, .inr ⟨_, s _ _ h⟩, q, r⟩
  · cases c with
    | dT q r => exact ⟨_, _, _, _, e, .inl h, q, r⟩
theorem Bor.grow {F' H' : Hp} {d : D} (h : Bor z F H v d) (g : Grow z F H F' H') : Bor z F' H' v d := h.elim (fun h => .inl (h.mono g.le)) fun h => .inr (h.grow g)
/-- a value is None just if its datum is -/
def isNon : D → Bool
  | .non => true
  | _ => false
theorem Bor.isN {d : D} (h : Bor z F H v d) : decide (v = .non) = isNon d := by
  rcases h with h | ⟨a, o, e, _, _, h, c⟩
  · cases h <;> rfl
  · subst e
    cases c <;> rfl
end
mutual
def D.py : D → PyData
  | .non => .none
  | .bl b => .bool b
  | .int i => .int i
  | .str x => .str x
  | .tup ds => .tuple (pyL ds)
  | .lst ds => .list (pyL ds)
  | .dK _ => .none
  | .dT _ => .none
  | .bag => .none
  | .tn ds => .tuple (pyL ds)
def pyL : List D → List PyData
  | [] => []
  | d :: ds => d.py :: pyL ds
end
mutual
def D.plain : D → Bool
  | .non => true
  | .bl _ => true
  | .int _ => true
  | .str _ => true
  | .tup ds => plainL ds
  | .lst ds => plainL ds
  | .dK _ => false
  | .dT _ => false
  | .bag => false
  | .tn ds => plainL ds
def plainL : List D → Bool
  | [] => true
  | d :: ds => d.plain && plainL ds
end
theorem same_sql {K : PySem.W.Frag} {F H : Hp} {a : Addr} {vs : List V} (s : Same F H) (h : F a = some (.lst vs)) : SqL K H a vs := SqL.of (s _ _ h)
section
variable {z : Bs} {F H : Hp}
mutual
theorem Den.dp (s : Same F H) : ∀ {v : V} {d : D}, Den z F v d → d.plain = true → Dp z.K H v d.py
  | _, _, .non, _ => by unfold D.py; exact .non
  | _, _, .bl k, _ => by unfold D.py; exact .bl k
  | _, _, .int i, _ => by unfold D.py; exact .int i
  | _, _, .str x, _ => by unfold D.py; exact .str x
  | _, _, .tup e r, p => by unfold D.py; exact .tup (sqt_same s e) (Dens.dp s r (by unfold D.plain at p; exact p))
  | _, _, .lst e r, p => by unfold D.py; exact .lst (same_sql s e) (Dens.dp s r (by unfold D.plain at p; exact p))
  | _, _, .dK _ _, p => by unfold D.plain at p; cases p
  | _, _, .dT _ _ _, p => by unfold D.plain at p; cases p
  | _, _, .bag, p => by unfold D.plain at p; cases p
  | _, _, .tn e r, p => by unfold D.py; exact .tup (sqt_same s e.sqt) (Dens.dp s r (by unfold D.plain at p; exact p))
theorem Dens.dp (s : Same F H) : ∀ {v : List V} {d : List D}, Dens z F v d → plainL d = true → DpAll z.K H v (pyL d)
  | _, _, .nil, _ => by unfold pyL; exact .nil
  | _, _, .cons a r, p => by
    unfold pyL
    unfold plainL at p
    rw [Bool.and_eq_true] at p
    exact .cons (Den.dp s a p.1) (Dens.dp s r p.2)
end
theorem Bor.dp {v : V} {d : D} (s : Same F H) (h : Bor z F H v d) (p : d.plain = true) : Dp z.K H v d.py := by
  rcases h with h | ⟨a, o, e, _, _, h, c⟩
  · exact h.dp s p
  · subst e
    cases c with
    | lst r =>
      unfold D.py
      unfold D.plain at p
      exact .lst (SqL.of h) (r.dp s p)
    | dK _ => unfold D.plain at p; cases p
    | dT _ => unfold D.plain at p; cases p
end
def xV (i : Nat) : Ex := fun ρ B => (ρ.getD i none).map fun d => (d, B)
def xC (d : D) : Ex := fun _ B => some (d, B)
theorem xV_some {i : Nat} {ρ : Env} {B B' : Bg} {d : D} (h : xV i ρ B = some (d, B')) : ρ[i]? = some (some d) ∧ B' = B := by
  unfold xV at h
  rw [List.getD_eq_getElem?_getD] at h
  cases e : ρ[i]? with
  | none => rw [e] at h; cases h
  | some o =>
    cases o with
    | none => rw [e] at h; cases h
    | some d' =>
      rw [e] at h
      have h' : some (d', B) = some (d, B') := h
      cases h'
      exact ⟨rfl, rfl⟩
section
variable {X : Cx} {ow : Mk} {ro : List Nat} {m : Mo} {pos : Pos}
theorem notow {ow : Mk} {i : Nat} (h : ow.getD i false = false) : ¬ isOw ow i := by
  intro e
  have e' : ow.getD i false = true := e
  rw [h] at e'
  cases e'
/-- a settled slot -/
theorem pv_v (i : Nat) {x : Str} (hw : ow.getD i false = false := by rfl) (hr : i ∉ ro := by decide) (hN : X.N[i]? = some x := by rfl) (hv : Vis X.env.scope x := by first | exact Or.inl rfl | exact Or.inr (Or.inl rfl) | exact Or.inr (Or.inr rfl))
    (hd : (x == ("__debug__" : Str)) = false := by decide) (hcd : (x == ("__classdict__" : Str)) = false := by decide) : PV .st ow ro X (.Name x pos) (xV i) :=
  PV.of (pe_var hN hv hd hcd) fun w ρ B F H σ d B' hK hR r hf Q k => by
    obtain ⟨e, rfl⟩ := xV_some hf
    obtain ⟨v, es, q⟩ := r.set i d (notow hw) (hR ▸ hr) e
    exact ⟨v, es, k v F H (Grow.refl r.sub) r.bag q⟩
/-- any slot, read at once -/
theorem pv_b (i : Nat) {x : Str} (hN : X.N[i]? = some x := by rfl) (hv : Vis X.env.scope x := by first | exact Or.inl rfl | exact Or.inr (Or.inl rfl) | exact Or.inr (Or.inr rfl))
    (hd : (x == ("__debug__" : Str)) = false := by decide) (hcd : (x == ("__classdict__" : Str)) = false := by decide) : PV .bo ow ro X (.Name x pos) (xV i) :=
  PV.of (pe_var hN hv hd hcd) fun w ρ B F H σ d B' hK hR r hf Q k => by
    obtain ⟨e, rfl⟩ := xV_some hf
    by_cases h1 : i ∈ w.R.map (·.1)
    · obtain ⟨p, hp, rfl⟩ := List.mem_map.mp h1
      have q := r.ro p hp
      obtain ⟨o, d', e', h0, c⟩ := q.c
      rw [e] at e'
      cases e'
      exact ⟨.ref p.2, q.sl, k _ F H (Grow.refl r.sub) r.bag (.inr ⟨p.2, o, rfl, q.nb, q.nf, r.gr.keep _ _ q.nb h0, c⟩)⟩
    · by_cases h2 : isOw ow i
      · obtain ⟨a, o, q⟩ := r.own i d h2 h1 e
        exact ⟨.ref a, q.sl, k _ F H (Grow.refl r.sub) r.bag (.inr ⟨a, o, rfl, q.nb, q.nf, q.at_, q.c⟩)⟩
      · obtain ⟨v, es, q⟩ := r.set i d h2 h1 e
        exact ⟨v, es, k v F H (Grow.refl r.sub) r.bag (.inl q)⟩
theorem pv_const {e : Expr} {v : V} {d : D} (h : PE X e (tC v)) (hd : ∀ z F, Den z F v d) : PV .st ow ro X e (xC d) :=
  PV.of h fun w ρ B F H σ d' B' hK hR r hf Q k => by
    cases hf
    exact k v F H (Grow.refl r.sub) r.bag (hd _ _)
theorem pv_int {i j} : PV .st ow ro X (.Constant (.int i) j pos) (xC (.int i)) := pv_const pe_int fun _ _ => .int i
theorem pv_bl {i j} : PV .st ow ro X (.Constant (.bool i) j pos) (xC (.bl i)) := pv_const pe_bl fun _ _ => .bl i
theorem pv_non {j} : PV .st ow ro X (.Constant .none j pos) (xC .non) := pv_const pe_non fun _ _ => .non
theorem pv_str {i j} : PV .st ow ro X (.Constant (.str i) j pos) (xC (.str i)) := pv_const pe_str fun _ _ => .str i
def x1 (g : D → Option D) (fa : Ex) : Ex := fun ρ B => (fa ρ B).bind fun p => (g p.1).map fun d => (d, p.2)
def x2 (g : D → D → Option D) (fa fb : Ex) : Ex := fun ρ B => (fa ρ B).bind fun p => (fb ρ p.2).bind fun q => (g p.1 q.1).map fun d => (d, q.2)
theorem x1_some {g : D → Option D} {fa : Ex} {ρ : Env} {B B' : Bg} {d : D} (h : x1 g fa ρ B = some (d, B')) : ∃ x, fa ρ B = some (x, B') ∧ g x = some d := by
  unfold x1 at h
  rw [Option.bind_eq_some_iff] at h
  obtain ⟨⟨x, B1⟩, e, h⟩ := h
  rw [Option.map_eq_some_iff] at h
  obtain ⟨d', e2, h⟩ := h
  cases h
  exact ⟨x, e, e2⟩
theorem x2_some {g : D → D → Option D} {fa fb : Ex} {ρ : Env} {B B' : Bg} {d : D} (h : x2 g fa fb ρ B = some (d, B')) : ∃ x B1 y, fa ρ B = some (x, B1) ∧ fb ρ B1 = some (y, B') ∧ g x y = some d := by
  unfold x2 at h
  rw [Option.bind_eq_some_iff] at h
  obtain ⟨⟨x, B1⟩, e, h⟩ := h
  rw [Option.bind_eq_some_iff] at h
  obtain ⟨⟨y, B2⟩, e1, h⟩ := h
  rw [Option.map_eq_some_iff] at h
  obtain ⟨d', e2, h⟩ := h
  cases h
  exact ⟨x, B1, y, e, e1, e2⟩
/-- the values' rule r does what g says of the data -/
def OpOk (K : Kx) (m : Mo) (r : R2) (g : D → D → Option D) : Prop :=
  ∀ (z : Bs) (F H : Hp) (B : Bg) (x y : V) (dx dy d : D), z.K = K → Same F H → BagAt z F H B → Bor z F H x dx → Bor z F H y dy → g dx dy = some d →
    ∀ Q : VK, (∀ v F' H', Grow z F H F' H' → BagAt z F' H' B → Res m z H F' H' v d → Q v H') → r x y H Q
def UnOk (K : Kx) (m : Mo) (r : V → Hp → VK → Prop) (g : D → Option D) : Prop :=
  ∀ (z : Bs) (F H : Hp) (B : Bg) (x : V) (dx d : D), z.K = K → Same F H → BagAt z F H B → Bor z F H x dx → g dx = some d →
    ∀ Q : VK, (∀ v F' H', Grow z F H F' H' → BagAt z F' H' B → Res m z H F' H' v d → Q v H') → r x H Q
theorem can_op {r : R2} {g : D → D → Option D} (hg : OpOk X.kx m r g) {fa fb : Ex} {w : Wd} {ρ : Env} {B B' : Bg} {F H : Hp} {σ : Sl} {d : D} (hK : w.z.K = X.kx) (hR : w.R.map (·.1) = ro) (rl : Rel w ow ρ B F H σ) (hf : x2 g fa fb ρ B = some (d, B')) {Q : VK}
    (k : ∀ v F' H', Grow w.z F H F' H' → BagAt w.z F' H' B' → Res m w.z H F' H' v d → Q v H') : tOp r (canE X.kx .bo ow ro fa) (canE X.kx .bo ow ro fb) σ H Q := by
  obtain ⟨x, B1, y, e1, e2, e3⟩ := x2_some hf
  refine ⟨w, ρ, B, F, x, B1, hK, hR, rl, e1, fun v1 F1 H1 g1 b1 q1 => ?_⟩
  have r1 := rl.grow g1 b1
  refine ⟨w, ρ, B1, F1, y, B', hK, hR, r1, e2, fun v2 F2 H2 g2 b2 q2 => ?_⟩
  exact hg w.z F2 H2 B' v1 v2 x y d hK g2.sub b2 (Bor.grow q1 g2) q2 e3 Q fun v F' H' g3 b3 q3 => k v F' H' ((g1.trans g2).trans g3) b3 (Res.back (g1.trans g2) q3)
theorem can_un {r : V → Hp → VK → Prop} {g : D → Option D} (hg : UnOk X.kx m r g) {fa : Ex} {w : Wd} {ρ : Env} {B B' : Bg} {F H : Hp} {σ : Sl} {d : D} (hK : w.z.K = X.kx) (hR : w.R.map (·.1) = ro) (rl : Rel w ow ρ B F H σ) (hf : x1 g fa ρ B = some (d, B')) {Q : VK}
    (k : ∀ v F' H', Grow w.z F H F' H' → BagAt w.z F' H' B' → Res m w.z H F' H' v d → Q v H') : tUn r (canE X.kx .bo ow ro fa) σ H Q := by
  obtain ⟨x, e1, e3⟩ := x1_some hf
  refine ⟨w, ρ, B, F, x, B', hK, hR, rl, e1, fun v1 F1 H1 g1 b1 q1 => ?_⟩
  exact hg w.z F1 H1 B' v1 x d hK g1.sub b1 q1 e3 Q fun v F' H' g3 b3 q3 => k v F' H' (g1.trans g3) b3 (Res.back g1 q3)
variable {a b c : Expr} {fa fb fc : Ex}
theorem pv_bin {op : Operator} {r : R2} {g : D → D → Option D} (ho : OpR X (binaryOp op) r) (hg : OpOk X.kx m r g) (ha : PV .bo ow ro X a fa) (hb : PV .bo ow ro X b fb) : PV m ow ro X (.BinOp a op b pos) (x2 g fa fb) :=
  PV.of (pe_op ho ha hb) fun w ρ B F H σ d B' hK hR r hf Q k => can_op hg hK hR r hf k
theorem pv_cmp {op : CmpOp} {r : R2} {g : D → D → Option D} (ho : OpR X (compareOp op) r) (hg : OpOk X.kx m r g) (ha : PV .bo ow ro X a fa) (hb : PV .bo ow ro X b fb) (hm : behindInMarks op b = false) : PV m ow ro X (.Compare a [op] [b] pos) (x2 g fa fb) :=
  PV.of (pe_cmpR ho ha hb hm) fun w ρ B F H σ d B' hK hR r hf Q k => can_op hg hK hR r hf k
theorem pv_un {op : UnaryOp} {r : V → Hp → VK → Prop} {g : D → Option D} (ho : UnR X (unaryOp op) r) (hg : UnOk X.kx m r g) (ha : PV .bo ow ro X a fa) : PV m ow ro X (.UnaryOp op a pos) (x1 g fa) :=
  PV.of (pe_un ho ha) fun w ρ B F H σ d B' hK hR r hf Q k => can_un hg hK hR r hf k
/-- a < b < c -/
def xChain (g g' : D → D → Option D) (fa fb fc : Ex) : Ex := fun ρ B => (fa ρ B).bind fun p => (fb ρ p.2).bind fun q => (g p.1 q.1).bind fun k => match k with
  | .bl true => (fc ρ q.2).bind fun s => (g' q.1 s.1).map fun d => (d, s.2)
  | .bl false => some (.bl false, q.2)
  | _ => none
/-- a rule that gives a bool and leaves all as it is -/
def CmpOk (K : Kx) (r : R2) (g : D → D → Option D) : Prop :=
  ∀ (z : Bs) (F H : Hp) (x y : V) (dx dy d : D), z.K = K → Same F H → Bor z F H x dx → Bor z F H y dy → g dx dy = some d → ∃ k, d = .bl k ∧ ∀ Q : VK, Q (.bl k) H → r x y H Q
theorem CmpOk.op {K : Kx} {r : R2} {g : D → D → Option D} (h : CmpOk K r g) : OpOk K .st r g := fun z F H B x y dx dy d hK s bg h1 h2 e Q k => by
  obtain ⟨j, rfl, q⟩ := h z F H x y dx dy d hK s h1 h2 e
  exact q Q (k _ F H (Grow.refl s) bg (.bl j))
theorem pv_chain {op op' : CmpOp} {r r' : R2} {g g' : D → D → Option D} (ho : OpR X (compareOp op) r) (ho' : OpR X (compareOp op') r') (hg : CmpOk X.kx r g) (hg' : CmpOk X.kx r' g') (ha : PV .bo ow ro X a fa) (hb : PV .bo ow ro X b fb) (hc : PV .bo ow ro X c fc)
    (hm : lastMarks [op, op'] [b, c] = false := by with_unfolding_all rfl) : PV .st ow ro X (.Compare a [op, op'] [b, c] pos) (xChain g g' fa fb fc) :=
  PV.of (pe_chain ho ho' ha hb hc hm) fun w ρ B F H σ d B' hK hR r hf Q k => by
    unfold xChain at hf
    rw [Option.bind_eq_some_iff] at hf
    obtain ⟨⟨x, B1⟩, e1, hf⟩ := hf
    rw [Option.bind_eq_some_iff] at hf
    obtain ⟨⟨y, B2⟩, e2, hf⟩ := hf
    rw [Option.bind_eq_some_iff] at hf
    obtain ⟨t, e3, hf⟩ := hf
    refine ⟨w, ρ, B, F, x, B1, hK, hR, r, e1, fun v1 F1 H1 g1 b1 q1 => ?_⟩
    have r1 := r.grow g1 b1
    refine ⟨w, ρ, B1, F1, y, B2, hK, hR, r1, e2, fun v2 F2 H2 g2 b2 q2 => ?_⟩
    obtain ⟨j, rfl, q⟩ := hg w.z F2 H2 v1 v2 x y t hK g2.sub (Bor.grow q1 g2) q2 e3
    refine q _ ⟨j, rfl, ?_⟩
    cases j with
    | false =>
      cases hf
      exact iteF (k _ F2 H2 (g1.trans g2) b2 (.bl false))
    | true =>
      refine iteT ?_
      have hf : ((fc ρ B2).bind fun s => (g' y s.1).map fun d => (d, s.2)) = some (d, B') := hf
      rw [Option.bind_eq_some_iff] at hf
      obtain ⟨⟨u, B3⟩, e4, hf⟩ := hf
      rw [Option.map_eq_some_iff] at hf
      obtain ⟨t', e5, hf⟩ := hf
      cases hf
      have r2 := r1.grow g2 b2
      refine ⟨w, ρ, B2, F2, u, _, hK, hR, r2, e4, fun v3 F3 H3 g3 b3 q3 => ?_⟩
      obtain ⟨j, rfl, q'⟩ := hg' w.z F3 H3 v2 v3 y u d hK g3.sub (Bor.grow q2 g3) q3 e5
      exact q' _ (k _ F3 H3 ((g1.trans g2).trans g3) b3 (.bl j))
def xAnd (fa fb : Ex) : Ex := fun ρ B => (fa ρ B).bind fun p => match p.1 with
  | .bl true => fb ρ p.2
  | .bl false => some (.bl false, p.2)
  | _ => none
def xOr (fa fb : Ex) : Ex := fun ρ B => (fa ρ B).bind fun p => match p.1 with
  | .bl true => some (.bl true, p.2)
  | .bl false => fb ρ p.2
  | _ => none
def xNot (fa : Ex) : Ex := fun ρ B => (fa ρ B).bind fun p => match p.1 with
  | .bl k => some (.bl (!k), p.2)
  | _ => none
def xIf (fc fa fb : Ex) : Ex := fun ρ B => (fc ρ B).bind fun p => match p.1 with
  | .bl true => fa ρ p.2
  | .bl false => fb ρ p.2
  | _ => none
theorem pv_one {op} (ha : PV m ow ro X a fa) : PV m ow ro X (.BoolOp op [a] pos) fa := pe_one ha
theorem pv_and {rest : List Expr} (ha : PV .bo ow ro X a fa) (hb : PV .st ow ro X (.BoolOp .And (b :: rest) pos) fb) : PV .st ow ro X (.BoolOp .And (a :: b :: rest) pos) (xAnd fa fb) :=
  PV.of (pe_and ha hb) fun w ρ B F H σ d B' hK hR r hf Q k => by
    unfold xAnd at hf
    rw [Option.bind_eq_some_iff] at hf
    obtain ⟨⟨x, B1⟩, e1, hf⟩ := hf
    refine ⟨w, ρ, B, F, x, B1, hK, hR, r, e1, fun v1 F1 H1 g1 b1 q1 => ?_⟩
    have r1 := r.grow g1 b1
    cases x with
    | bl j =>
      refine ⟨j, Bor.bl q1, ?_⟩
      cases j with
      | false =>
        cases hf
        exact iteF (k _ F1 H1 g1 b1 (.bl false))
      | true => exact iteT ⟨w, ρ, B1, F1, d, B', hK, hR, r1, hf, fun v2 F2 H2 g2 b2 q2 => k v2 F2 H2 (g1.trans g2) b2 (Res.back (m := .st) g1 q2)⟩
    | _ => cases hf
theorem pv_or {rest : List Expr} (ha : PV .bo ow ro X a fa) (hb : PV .st ow ro X (.BoolOp .Or (b :: rest) pos) fb) : PV .st ow ro X (.BoolOp .Or (a :: b :: rest) pos) (xOr fa fb) :=
  PV.of (pe_or ha hb) fun w ρ B F H σ d B' hK hR r hf Q k => by
    unfold xOr at hf
    rw [Option.bind_eq_some_iff] at hf
    obtain ⟨⟨x, B1⟩, e1, hf⟩ := hf
    refine ⟨w, ρ, B, F, x, B1, hK, hR, r, e1, fun v1 F1 H1 g1 b1 q1 => ?_⟩
    have r1 := r.grow g1 b1
    cases x with
    | bl j =>
      refine ⟨j, Bor.bl q1, ?_⟩
      cases j with
      | true =>
        cases hf
        exact iteT (k _ F1 H1 g1 b1 (.bl true))
      | false => exact iteF ⟨w, ρ, B1, F1, d, B', hK, hR, r1, hf, fun v2 F2 H2 g2 b2 q2 => k v2 F2 H2 (g1.trans g2) b2 (Res.back (m := .st) g1 q2)⟩
    | _ => cases hf
theorem pv_not (ha : PV .bo ow ro X a fa) : PV .st ow ro X (.UnaryOp .Not a pos) (xNot fa) :=
  PV.of (pe_not ha) fun w ρ B F H σ d B' hK hR r hf Q k => by
    unfold xNot at hf
    rw [Option.bind_eq_some_iff] at hf
    obtain ⟨⟨x, B1⟩, e1, hf⟩ := hf
    refine ⟨w, ρ, B, F, x, B1, hK, hR, r, e1, fun v1 F1 H1 g1 b1 q1 => ?_⟩
    cases x with
    | bl j =>
      cases hf
      exact ⟨j, Bor.bl q1, k _ F1 H1 g1 b1 (.bl _)⟩
    | _ => cases hf
/-- the canonical reading of a test -/
def canT (K : Kx) (ow : Mk) (ro : List Nat) (f : Ex) : TT := fun σ H Q => ∃ (w : Wd) (ρ : Env) (B : Bg) (F : Hp) (j : Bool) (B' : Bg), w.z.K = K ∧ w.R.map (·.1) = ro ∧ Rel w ow ρ B F H σ ∧ f ρ B = some (.bl j, B') ∧
  ∀ F' H', Grow w.z F H F' H' → BagAt w.z F' H' B' → Q j H'
def PVT (ow : Mk) (ro : List Nat) (X : Cx) (e : Expr) (f : Ex) : Prop := PT X e (canT X.kx ow ro f)
theorem PVT.of {e : Expr} {f : Ex} {t : TT} (h : PT X e t) (i : ∀ (w : Wd) (ρ : Env) (B : Bg) (F H : Hp) (σ : Sl) (j : Bool) (B' : Bg), w.z.K = X.kx → w.R.map (·.1) = ro → Rel w ow ρ B F H σ → f ρ B = some (.bl j, B') →
    ∀ Q : Bool → Hp → Prop, (∀ F' H', Grow w.z F H F' H' → BagAt w.z F' H' B' → Q j H') → t σ H Q) : PVT ow ro X e f :=
  pt_weak h fun σ H Q ⟨w, ρ, B, F, j, B', hK, hR, r, hf, k⟩ => i w ρ B F H σ j B' hK hR r hf Q k
/-- a comparison as a test -/
theorem pt_cmp1 {op : CmpOp} {r : R2} {g : D → D → Option D} (ho : OpR X (compareOp op) r) (hg : CmpOk X.kx r g) (ha : PV .bo ow ro X a fa) (hb : PV .bo ow ro X b fb) (hm : behindInMarks op b = false) : PVT ow ro X (.Compare a [op] [b] pos) (x2 g fa fb) :=
  PVT.of (pt_cmpR ho ha hb hm) fun w ρ B F H σ j B' hK hR r hf Q k => can_op (m := .st) hg.op hK hR r hf fun v F' H' g1 b1 q1 => ⟨j, Bor.bl (.inl q1 : Bor w.z F' H' v (.bl j)), k F' H' g1 b1⟩
/-- a value that is True or False, as a test -/
theorem pt_v {e : Expr} {f : Ex} (h : PV .bo ow ro X e f) (he : ∀ whole, isTrue e X.env whole = (do let v ← whole; standAt e.pos; holding [v] (truthy v)) := by intro _; rfl) : PVT ow ro X e f :=
  PVT.of (pt_val h he) fun w ρ B F H σ j B' hK hR r hf Q k => ⟨w, ρ, B, F, _, B', hK, hR, r, hf, fun v F' H' g b q => ⟨j, Bor.bl q, k F' H' g b⟩⟩
def PVW (ow : Mk) (ro : List Nat) (X : Cx) (e : Expr) (f : Ex) : Prop := PW X e (canT X.kx ow ro f)
theorem pw_weak {e : Expr} {t u : TT} (h : PW X e t) (i : ∀ σ H Q, u σ H Q → t σ H Q) : PW X e u := ⟨fun wh pins s σ H Q I q => h.run wh pins s σ H Q I (i σ H Q q)⟩
theorem PVW.pt {e : Expr} {f : Ex} (h : PVW ow ro X e f) : PVT ow ro X e f := PW.pt h
theorem pt_and1 (ha : PVT ow ro X a fa) : PVW ow ro X (.BoolOp .And [a] pos) fa := pw_and1 ha
theorem pt_or1 (ha : PVT ow ro X a fa) : PVW ow ro X (.BoolOp .Or [a] pos) fa := pw_or1 ha
theorem pt_and {rest : List Expr} (ha : PVT ow ro X a fa) (hb : PVW ow ro X (.BoolOp .And (b :: rest) pos) fb) : PVW ow ro X (.BoolOp .And (a :: b :: rest) pos) (xAnd fa fb) :=
  pw_weak (pw_and ha hb) fun σ H Q ⟨w, ρ, B, F, j, B', hK, hR, r, hf, k⟩ => by
    unfold xAnd at hf
    rw [Option.bind_eq_some_iff] at hf
    obtain ⟨⟨x, B1⟩, e1, hf⟩ := hf
    cases x with
    | bl i =>
      refine ⟨w, ρ, B, F, i, B1, hK, hR, r, e1, fun F1 H1 g1 b1 => ?_⟩
      cases i with
      | false =>
        cases hf
        exact iteF (k F1 H1 g1 b1)
      | true => exact iteT ⟨w, ρ, B1, F1, j, B', hK, hR, r.grow g1 b1, hf, fun F2 H2 g2 b2 => k F2 H2 (g1.trans g2) b2⟩
    | _ => cases hf
theorem pt_or {rest : List Expr} (ha : PVT ow ro X a fa) (hb : PVW ow ro X (.BoolOp .Or (b :: rest) pos) fb) : PVW ow ro X (.BoolOp .Or (a :: b :: rest) pos) (xOr fa fb) :=
  pw_weak (pw_or ha hb) fun σ H Q ⟨w, ρ, B, F, j, B', hK, hR, r, hf, k⟩ => by
    unfold xOr at hf
    rw [Option.bind_eq_some_iff] at hf
    obtain ⟨⟨x, B1⟩, e1, hf⟩ := hf
    cases x with
    | bl i =>
      refine ⟨w, ρ, B, F, i, B1, hK, hR, r, e1, fun F1 H1 g1 b1 => ?_⟩
      cases i with
      | true =>
        cases hf
        exact iteT (k F1 H1 g1 b1)
      | false => exact iteF ⟨w, ρ, B1, F1, j, B', hK, hR, r.grow g1 b1, hf, fun F2 H2 g2 b2 => k F2 H2 (g1.trans g2) b2⟩
    | _ => cases hf
theorem pt_not1 (ha : PVT ow ro X a fa) : PVT ow ro X (.UnaryOp .Not a pos) (xNot fa) :=
  PVT.of (pt_not ha) fun w ρ B F H σ j B' hK hR r hf Q k => by
    unfold xNot at hf
    rw [Option.bind_eq_some_iff] at hf
    obtain ⟨⟨x, B1⟩, e1, hf⟩ := hf
    cases x with
    | bl i =>
      cases hf
      exact ⟨w, ρ, B, F, i, _, hK, hR, r, e1, fun F1 H1 g1 b1 => k F1 H1 g1 b1⟩
    | _ => cases hf
theorem pv_if {e : Expr} (hc : PVT ow ro X e fc) (ha : PV m ow ro X a fa) (hb : PV m ow ro X b fb) : PV m ow ro X (.IfExp e a b pos) (xIf fc fa fb) :=
  PV.of (pe_ifExp hc ha hb) fun w ρ B F H σ d B' hK hR r hf Q k => by
    unfold xIf at hf
    rw [Option.bind_eq_some_iff] at hf
    obtain ⟨⟨x, B1⟩, e1, hf⟩ := hf
    cases x with
    | bl i =>
      refine ⟨w, ρ, B, F, i, B1, hK, hR, r, e1, fun F1 H1 g1 b1 => ?_⟩
      cases i with
      | true => exact iteT ⟨w, ρ, B1, F1, d, B', hK, hR, r.grow g1 b1, hf, fun v F2 H2 g2 b2 q => k v F2 H2 (g1.trans g2) b2 (Res.back g1 q)⟩
      | false => exact iteF ⟨w, ρ, B1, F1, d, B', hK, hR, r.grow g1 b1, hf, fun v F2 H2 g2 b2 q => k v F2 H2 (g1.trans g2) b2 (Res.back g1 q)⟩
    | _ => cases hf
end
end DL
namespace DL
open PySem PySem.Spec PyProof.Rows L2
/-- a result is a list -/
def isLst : D → Prop
  | .lst _ => True
  | _ => False
theorem OwnC.lst_den {z : Bs} {F : Hp} {o : HO} {d : D} {a : Addr} (l : isLst d) (c : OwnC z F o d) (nf : F a = none) : Den z (upd F a o) (.ref a) d := by
  cases c with
  | lst r => exact .lst upd_same (r.mono (same_upd_free nf))
  | dK r => exact False.elim l
  | dT q r => exact False.elim l
theorem OpOk.settle {K : Kx} {r : R2} {g : D → D → Option D} (hl : ∀ x y d, g x y = some d → isLst d) (h : OpOk K .fr r g) : OpOk K .st r g := fun z F H B x y dx dy d hK s bg h1 h2 e Q k =>
  h z F H B x y dx dy d hK s bg h1 h2 e Q fun v F' H' g1 b1 ⟨a, o, ev, nb, n, nf, ha, c⟩ => by
    subst ev
    exact k _ _ _ (g1.settle nb n ha) (b1.settle nb nf) (c.lst_den (hl _ _ _ e) nf)
abbrev Exs := Env → Bg → Option (List D × Bg)
def xNil : Exs := fun _ B => some ([], B)
def xCons (f : Ex) (fs : Exs) : Exs := fun ρ B => (f ρ B).bind fun p => (fs ρ p.2).map fun q => (p.1 :: q.1, q.2)
theorem xCons_some {f : Ex} {fs : Exs} {ρ : Env} {B B' : Bg} {ds : List D} (h : xCons f fs ρ B = some (ds, B')) : ∃ d B1 es, f ρ B = some (d, B1) ∧ fs ρ B1 = some (es, B') ∧ ds = d :: es := by
  unfold xCons at h
  rw [Option.bind_eq_some_iff] at h
  obtain ⟨⟨x, B1⟩, e, h⟩ := h
  rw [Option.map_eq_some_iff] at h
  obtain ⟨⟨es, B2⟩, e2, h⟩ := h
  cases h
  exact ⟨x, B1, es, e, e2, rfl⟩
inductive ResA (z : Bs) (H F' H' : Hp) : List Mo → List V → List D → Prop
  | nil : ResA z H F' H' [] [] []
  | cons {m : Mo} {ms : List Mo} {v : V} {vs : List V} {d : D} {ds : List D} : Res m z H F' H' v d → (m = Mo.fr → ∀ (j : Nat) (v' : V), ms[j]? = some Mo.fr → vs[j]? = some v' → v' ≠ v) → ResA z H F' H' ms vs ds → ResA z H F' H' (m :: ms) (v :: vs) (d :: ds)
theorem ResA.back {z : Bs} {F H F1 H1 F2 H2 : Hp} (g : Grow z F H F1 H1) : ∀ {ms : List Mo} {vs : List V} {ds : List D}, ResA z H1 F2 H2 ms vs ds → ResA z H F2 H2 ms vs ds
  | _, _, _, .nil => .nil
  | _, _, _, .cons a n r => .cons (Res.back g a) n (ResA.back g r)
theorem ResA.grow2 {z : Bs} {H F1 H1 F2 H2 : Hp} (g : Grow z F1 H1 F2 H2) : ∀ {ms : List Mo} {vs : List V} {ds : List D}, ResA z H F1 H1 ms vs ds → ResA z H F2 H2 ms vs ds
  | _, _, _, .nil => .nil
  | _, _, _, .cons a n r => .cons (Res.grow a g) n (ResA.grow2 g r)
theorem ResA.frs {z : Bs} {H F' H' : Hp} : ∀ {ms : List Mo} {vs : List V} {ds : List D}, ResA z H F' H' ms vs ds → ∀ (j : Nat) (v : V), ms[j]? = some .fr → vs[j]? = some v → ∃ a, v = .ref a ∧ H a = none
  | _, _, _, .nil, j, v, h, _ => by simp at h
  | _, _, _, .cons a n r, 0, v, h, h2 => by
    simp at h h2
    subst h h2
    obtain ⟨a, o, e, _, n, _⟩ := a
    exact ⟨a, e, n⟩
  | _, _, _, .cons a n r, j + 1, v, h, h2 => ResA.frs r j v (by simpa using h) (by simpa using h2)
def allSt : List Mo → Bool
  | [] => true
  | .st :: ms => allSt ms
  | _ => false
theorem ResA.dens {z : Bs} {H F' H' : Hp} : ∀ {ms : List Mo} {vs : List V} {ds : List D}, ResA z H F' H' ms vs ds → allSt ms = true → Dens z F' vs ds
  | _, _, _, .nil, _ => .nil
  | .st :: _, _, _, .cons a n r, h => .cons a (ResA.dens r h)
  | .fr :: _, _, _, .cons a n r, h => by cases h
  | .bo :: _, _, _, .cons a n r, h => by cases h
theorem ResA.length {z : Bs} {H F' H' : Hp} : ∀ {ms : List Mo} {vs : List V} {ds : List D}, ResA z H F' H' ms vs ds → vs.length = ms.length ∧ ds.length = ms.length
  | _, _, _, .nil => ⟨rfl, rfl⟩
  | _, _, _, .cons a n r => ⟨congrArg (· + 1) (ResA.length r).1, congrArg (· + 1) (ResA.length r).2⟩
def canA (K : Kx) (ms : List Mo) (ow : Mk) (ro : List Nat) (fs : Exs) : TA := fun σ H Q => ∃ (w : Wd) (ρ : Env) (B : Bg) (F : Hp) (ds : List D) (B' : Bg), w.z.K = K ∧ w.R.map (·.1) = ro ∧ Rel w ow ρ B F H σ ∧ fs ρ B = some (ds, B') ∧
  ∀ vs F' H', Grow w.z F H F' H' → BagAt w.z F' H' B' → ResA w.z H F' H' ms vs ds → Q vs H'
def PVs (ms : List Mo) (ow : Mk) (ro : List Nat) (X : Cx) (es : List Expr) (fs : Exs) : Prop := PA X es (canA X.kx ms ow ro fs)
section
variable {X : Cx} {ow : Mk} {ro : List Nat} {m : Mo} {ms : List Mo} {pos p : Pos} {e : Expr} {es : List Expr} {f : Ex} {fs : Exs} {x : Str} {a b : Expr} {fa fb : Ex}
theorem pvs_nil : PVs [] ow ro X [] xNil := pa_weak pa_nil fun σ H Q ⟨w, ρ, B, F, ds, B', hK, hR, r, hf, k⟩ => by
  cases hf
  exact k [] F H (Grow.refl r.sub) r.bag .nil
theorem pvs_cons (he : PV m ow ro X e f) (hs : PVs ms ow ro X es fs) (hst : starEach (e :: es) X.env = (false, eval e X.env) :: starEach es X.env := by rfl) : PVs (m :: ms) ow ro X (e :: es) (xCons f fs) :=
  pa_weak (pa_cons he hs hst) fun σ H Q ⟨w, ρ, B, F, ds, B', hK, hR, r, hf, k⟩ => by
    obtain ⟨d, B1, es', e1, e2, rfl⟩ := xCons_some hf
    refine ⟨w, ρ, B, F, d, B1, hK, hR, r, e1, fun v F1 H1 g1 b1 q1 => ?_⟩
    refine ⟨w, ρ, B1, F1, es', B', hK, hR, r.grow g1 b1, e2, fun vs F2 H2 g2 b2 q2 => k (v :: vs) F2 H2 (g1.trans g2) b2 (.cons (q1.grow g2) (fun em j v' h1 h2 => ?_) (q2.back g1))⟩
    subst em
    obtain ⟨a', e', n'⟩ := q2.frs j v' h1 h2
    obtain ⟨a1, o1, ev, _, _, _, h, _⟩ := q1
    intro z
    rw [e', ev] at z
    cases z
    rw [n'] at h
    cases h
/-- (a, b, ..) -/
def xTup (fs : Exs) : Ex := fun ρ B => (fs ρ B).map fun p => (.tup p.1, p.2)
def xLst (fs : Exs) : Ex := fun ρ B => (fs ρ B).map fun p => (.lst p.1, p.2)
theorem pv_tup {x1} (h : PVs ms ow ro X es fs) (ha : allSt ms = true := by rfl) (hl : ms.length ≤ sizeLine := by decide) : PV .st ow ro X (.Tuple es x1 pos) (xTup fs) :=
  PV.of (pe_tup h) fun w ρ B F H σ d B' hK hR r hf Q k => by
    unfold xTup at hf
    rw [Option.map_eq_some_iff] at hf
    obtain ⟨⟨ds, B1⟩, e1, hf⟩ := hf
    cases hf
    refine ⟨w, ρ, B, F, ds, _, hK, hR, r, e1, fun vs F1 H1 g1 b1 q1 => ⟨by rw [q1.length.1]; exact hl, fun p hp => ?_⟩⟩
    exact k _ _ _ (g1.trans (Grow.laidS g1.sub hp)) (b1.laidS g1.sub hp) (.tup (SqT.of upd_same) ((q1.dens ha).mono (same_upd_free (free_of g1.sub hp))))
theorem BagAt.new {z : Bs} {F H : Hp} {B : Bg} (x : BagAt z F H B) {p : Addr} (n : H p = none) : p ≠ z.b := fun q => x.stood (q ▸ n)
theorem pv_lst (h : PVs ms ow ro X es fs) (ha : allSt ms = true := by rfl) (hl : ms.length ≤ sizeLine := by decide) : PV .fr ow ro X (.List es pos) (xLst fs) :=
  PV.of (pe_lst h) fun w ρ B F H σ d B' hK hR r hf Q k => by
    unfold xLst at hf
    rw [Option.map_eq_some_iff] at hf
    obtain ⟨⟨ds, B1⟩, e1, hf⟩ := hf
    cases hf
    refine ⟨w, ρ, B, F, ds, _, hK, hR, r, e1, fun vs F1 H1 g1 b1 q1 => ⟨by rw [q1.length.1]; exact hl, fun p hp => ?_⟩⟩
    exact k _ _ _ (g1.trans (Grow.laid g1.sub hp)) (b1.laid hp) (Res.back (m := .fr) g1 ⟨p, _, rfl, b1.new hp, hp, free_of g1.sub hp, upd_same, .lst (q1.dens ha)⟩)
theorem pv_call1 {id : String} {r : List V → Hp → VK → Prop} {g : D → Option D} (hc : CallR X (.builtin id) r) (hg : UnOk X.kx m (fun v H Q => r [v] H Q) g) (hm : X.mg x = none) (hv : bootBuiltins x = some (.builtin id)) (ha : PV .bo ow ro X a fa) (hgl : Gl X x := by rfl)
    (hn : x ≠ "__name__" := by decide) (hdb : (x == ("__debug__" : Str)) = false := by decide) (he : starEach [a] X.env = (false, eval a X.env) :: starEach [] X.env := by rfl) (hpl : (backTo pos (starEach [] X.env)).any (·.1) = false := by rfl) :
    PV m ow ro X (.Call (.Name x p) [a] [] pos) (x1 g fa) :=
  PV.of (pe_callB hc hgl hm hv (pa_cons ha pa_nil he) hn hdb he hpl) fun w ρ B F H σ d B' hK hR r hf Q k => can_un hg hK hR r hf k
theorem pv_callT1 {T : String} {r : List V → Hp → VK → Prop} {g : D → Option D} (hc : CallR X (.type T) r) (hg : UnOk X.kx m (fun v H Q => r [v] H Q) g) (hm : X.mg x = none) (hv : bootBuiltins x = some (.type T)) (ha : PV .bo ow ro X a fa) (hgl : Gl X x := by rfl)
    (hn : x ≠ "__name__" := by decide) (hdb : (x == ("__debug__" : Str)) = false := by decide) (he : starEach [a] X.env = (false, eval a X.env) :: starEach [] X.env := by rfl) (hpl : (backTo pos (starEach [] X.env)).any (·.1) = false := by rfl) :
    PV m ow ro X (.Call (.Name x p) [a] [] pos) (x1 g fa) :=
  PV.of (pe_callTy hc hgl hm hv (pa_cons ha pa_nil he) hn hdb he hpl) fun w ρ B F H σ d B' hK hR r hf Q k => can_un hg hK hR r hf k
abbrev Exo := Env → Bg → Option (Option Int × Bg)
def xPn : Exo := fun _ B => some (none, B)
def xPs (f : Ex) : Exo := fun ρ B => (f ρ B).bind fun p => match p.1 with
  | .int i => some (some i, p.2)
  | _ => none
def canO (K : Kx) (ow : Mk) (ro : List Nat) (f : Exo) : TO := fun σ H Q => ∃ (w : Wd) (ρ : Env) (B : Bg) (F : Hp) (j : Option Int) (B' : Bg), w.z.K = K ∧ w.R.map (·.1) = ro ∧ Rel w ow ρ B F H σ ∧ f ρ B = some (j, B') ∧
  ∀ F' H', Grow w.z F H F' H' → BagAt w.z F' H' B' → Q j H'
theorem po_weak {e : Option Expr} {t u : TO} (h : PO X e t) (i : ∀ σ H Q, u σ H Q → t σ H Q) : PO X e u := ⟨fun pins s σ H Q I q => h.run pins s σ H Q I (i σ H Q q)⟩
def PVo (ow : Mk) (ro : List Nat) (X : Cx) (e : Option Expr) (f : Exo) : Prop := PO X e (canO X.kx ow ro f)
theorem pvo_n : PVo ow ro X none xPn := po_weak po_none fun σ H Q ⟨w, ρ, B, F, j, B', hK, hR, r, hf, k⟩ => by
  cases hf
  exact k F H (Grow.refl r.sub) r.bag
theorem pvo_s (h : PV .bo ow ro X e f) : PVo ow ro X (some e) (xPs f) := po_weak (po_some h) fun σ H Q ⟨w, ρ, B, F, j, B', hK, hR, r, hf, k⟩ => by
  unfold xPs at hf
  rw [Option.bind_eq_some_iff] at hf
  obtain ⟨⟨x, B1⟩, e1, hf⟩ := hf
  cases x with
  | int i =>
    cases hf
    exact ⟨w, ρ, B, F, _, _, hK, hR, r, e1, fun v F1 H1 g1 b1 q1 => ⟨i, Bor.int q1, k F1 H1 g1 b1⟩⟩
  | _ => cases hf
def xSl (g : D → Option Int → Option Int → Option D) (fa : Ex) (fl fh : Exo) : Ex := fun ρ B => (fa ρ B).bind fun p => (fl ρ p.2).bind fun l => (fh ρ l.2).bind fun h => (g p.1 l.1 h.1).map fun d => (d, h.2)
def SlOk (K : Kx) (m : Mo) (r : V → Option Int → Option Int → Hp → VK → Prop) (g : D → Option Int → Option Int → Option D) : Prop :=
  ∀ (z : Bs) (F H : Hp) (B : Bg) (x : V) (lo hi : Option Int) (dx d : D), z.K = K → Same F H → BagAt z F H B → Bor z F H x dx → g dx lo hi = some d →
    ∀ Q : VK, (∀ v F' H', Grow z F H F' H' → BagAt z F' H' B → Res m z H F' H' v d → Q v H') → r x lo hi H Q
theorem SlOk.settle {K : Kx} {r : V → Option Int → Option Int → Hp → VK → Prop} {g : D → Option Int → Option Int → Option D} (hl : ∀ x l h d, g x l h = some d → isLst d) (h : SlOk K .fr r g) : SlOk K .st r g := fun z F H B x lo hi dx d hK s bg h1 e Q k =>
  h z F H B x lo hi dx d hK s bg h1 e Q fun v F' H' g1 b1 ⟨a, o, ev, nb, n, nf, ha, c⟩ => by
    subst ev
    exact k _ _ _ (g1.settle nb n ha) (b1.settle nb nf) (c.lst_den (hl _ _ _ _ e) nf)
theorem pv_sl {r : V → Option Int → Option Int → Hp → VK → Prop} {g : D → Option Int → Option Int → Option D} {lo hi : Option Expr} {fl fh : Exo} {p2 : Pos} (hr : SlR X r) (hg : SlOk X.kx m r g) (ha : PV .bo ow ro X a fa) (hl : PVo ow ro X lo fl) (hh : PVo ow ro X hi fh) :
    PV m ow ro X (.Subscript a (.Slice lo hi none p2) pos) (xSl g fa fl fh) :=
  PV.of (pe_slice hr ha hl hh) fun w ρ B F H σ d B' hK hR r hf Q k => by
    unfold xSl at hf
    rw [Option.bind_eq_some_iff] at hf
    obtain ⟨⟨x, B1⟩, e1, hf⟩ := hf
    rw [Option.bind_eq_some_iff] at hf
    obtain ⟨⟨l, B2⟩, e2, hf⟩ := hf
    rw [Option.bind_eq_some_iff] at hf
    obtain ⟨⟨h, B3⟩, e3, hf⟩ := hf
    rw [Option.map_eq_some_iff] at hf
    obtain ⟨t, e4, hf⟩ := hf
    cases hf
    refine ⟨w, ρ, B, F, x, B1, hK, hR, r, e1, fun v F1 H1 g1 b1 q1 => ?_⟩
    have r1 := r.grow g1 b1
    refine ⟨w, ρ, B1, F1, l, B2, hK, hR, r1, e2, fun F2 H2 g2 b2 => ?_⟩
    have r2 := r1.grow g2 b2
    refine ⟨w, ρ, B2, F2, h, _, hK, hR, r2, e3, fun F3 H3 g3 b3 => ?_⟩
    exact hg w.z F3 H3 _ v l h x _ hK g3.sub b3 (Bor.grow (Bor.grow q1 g2) g3) e4 Q fun v' F' H' g4 b4 q4 => k v' F' H' (((g1.trans g2).trans g3).trans g4) b4 (Res.back ((g1.trans g2).trans g3) q4)
end
abbrev Fn := List D → Bg → Option (D × Bg)
/-- the promise: over data, f -/
def spV (K : Kx) (n : Nat) (f : Fn) : Sp := fun vs H Q _ => ∃ (z : Bs) (F : Hp) (B : Bg) (ds : List D) (d : D) (B' : Bg), z.K = K ∧ vs.length = n ∧ Same F H ∧ BagAt z F H B ∧ Dens z F vs ds ∧ f ds B = some (d, B') ∧
  ∀ v F' H', Grow z F H F' H' → BagAt z F' H' B' → Den z F' v d → Q v H'
/-- a def keeps its promise wherever no repr runs -/
structure FnG (P : Program) (w : World) (K : PySem.W.Frag) (mg : Str → Option Value) (base : Heap) (k : Nat) (f : Addr) (fd : FuncData) (ps : List Str) (sp : Sp) : Prop where
  len : ∀ vs H Q E, sp vs H Q E → vs.length = ps.length
  run : ∀ (A : Around) (outer : List PySem.Env) (s : Shared) (H : Hp) (args : Args) (us : List Value) (vs : List V) (Q : VK), Room k A → A.guards = some [] → Env0 P w K mg base A outer s H → BindsTo s fd args (ps.zip us) → Vals vs us → sp vs H Q E0 →
    codeAny (model P w) A (.call (.ref f) args) (CR CX0 outer P w H s Q E0) s
theorem FnG.mono {P : Program} {w : World} {K : PySem.W.Frag} {mg : Str → Option Value} {base : Heap} {j k : Nat} {f : Addr} {fd : FuncData} {ps : List Str} {sp : Sp} (h : FnG P w K mg base j f fd ps sp) (hj : j ≤ k) : FnG P w K mg base k f fd ps sp :=
  ⟨h.len, fun A outer s H args us vs Q hr => h.run A outer s H args us vs Q (hr.mono hj)⟩
section
variable {X : Cx} {k : Nat} {f : Addr} {fd : FuncData} {ps : List Str} {sp : Sp} {x : Str} {p pos : Pos} {e : Expr} {es : List Expr} {t : TA}
/-- f(e, ..), all parameters given -/
theorem pe_callG (h : FnG X.prog X.w X.kx X.mg X.base k f fd ps sp) (hr : Room k X.A) (hgd : X.A.guards = some []) (hm : X.mg x = some (.ref f)) (hk : PySem.W.keepIn X.kx (.ref f) = true) (hb : Binds X.kx fd ps []) (ha : PA X (e :: es) t) (hg : Gl X x := by rfl)
    (hdb : (x == ("__debug__" : Str)) = false := by decide) (he : starEach (e :: es) X.env = (false, eval e X.env) :: starEach es X.env := by rfl) (hpl : (backTo pos (starEach es X.env)).any (·.1) = false := by rfl) :
    PE X (.Call (.Name x p) (e :: es) [] pos) (fun σ H Q => t σ H fun vs H1 => sp vs H1 Q E0) := by
  constructor
  intro pins s σ H Q I q
  refine wpAny_Call_Name_kw (ld_glob I hg hm ?_ hdb)
  refine PySem.W.callWith_K (h₀ := X.base) I.ok.mod.kin hk (thn (ha.run pos pins s σ H _ I q) ?_) he hpl
  rintro us s1 ⟨vs, H1, I1, r, q⟩
  refine ⟨I1.kIn, ?_⟩
  have hl : us.length = ps.length := r.length.symm.trans (h.len _ _ _ _ q)
  have hb' : BindsTo s1 fd ⟨us, []⟩ (ps.zip us) := by
    have hb' := hb s1 us I1.kIn (by rw [List.append_nil]; exact hl)
    rwa [List.append_nil] at hb'
  refine wpAny_call (codeAny_mono (h.run X.A X.stack s1 H1 ⟨us, []⟩ us vs Q hr hgd I1.env0 hb' r q) ?_)
  intro r s' hq
  match r, hq with
  | .error e, hq => exact False.elim hq
  | .ok (.ret u), hq => exact I1.after hq
  | .ok .next, hq => exact False.elim hq
  | .ok .brk, hq => exact False.elim hq
  | .ok .cont, hq => exact False.elim hq
def xCall (f : Fn) (fs : Exs) : Ex := fun ρ B => (fs ρ B).bind fun p => f p.1 p.2
theorem pv_call {n : Nat} {fn : Fn} {fs : Exs} {ms : List Mo} {ow : Mk} {ro : List Nat} (h : FnG X.prog X.w X.kx X.mg X.base k f fd ps (spV X.kx n fn)) (hr : Room k X.A) (hgd : X.A.guards = some []) (hm : X.mg x = some (.ref f)) (hk : PySem.W.keepIn X.kx (.ref f) = true) (hb : Binds X.kx fd ps [])
    (ha : PVs ms ow ro X (e :: es) fs) (hms : allSt ms = true := by rfl) (hn : ms.length = n := by rfl) (hg : Gl X x := by rfl)
    (hdb : (x == ("__debug__" : Str)) = false := by decide) (he : starEach (e :: es) X.env = (false, eval e X.env) :: starEach es X.env := by rfl) (hpl : (backTo pos (starEach es X.env)).any (·.1) = false := by rfl) :
    PV .st ow ro X (.Call (.Name x p) (e :: es) [] pos) (xCall fn fs) :=
  PV.of (pe_callG h hr hgd hm hk hb ha hg hdb he hpl) fun w ρ B F H σ d B' hK hR r hf Q k => by
    unfold xCall at hf
    rw [Option.bind_eq_some_iff] at hf
    obtain ⟨⟨ds, B1⟩, e1, hf⟩ := hf
    refine ⟨w, ρ, B, F, ds, B1, hK, hR, r, e1, fun vs F1 H1 g1 b1 q1 => ?_⟩
    exact ⟨w.z, F1, B1, ds, d, B', hK, q1.length.1.trans hn, g1.sub, b1, q1.dens hms, hf, fun v F' H' g2 b2 q2 => k v F' H' (g1.trans g2) b2 q2⟩
end
/-- THE RULE for a def: by its body, where no repr runs -/
theorem fn_ofG {P : Program} {w : World} {K : PySem.W.Frag} {mg : Str → Option Value} {base : Heap} {k : Nat} {x qual : Str} {st : Stmt} {f : Addr} {fd : FuncData} {N ps : List Str} {sp : Sp} (F : Fun K x qual st f fd) (S : FnScope N ps (defScope st))
    (len : ∀ vs H Q E, sp vs H Q E → vs.length = ps.length)
    (hbody : ∀ (cdv : Value) (A : Around) (outer : List PySem.Env) (s : Shared) (H : Hp) (vs : List V) (Q : VK), Room k (A.deeper (envOfC qual (defScope st) s.heap.objs.size f cdv)) → A.guards = some [] → sp vs H Q E0 →
      ∃ t, PSs (cxOf CX0 P w K mg base N qual (defScope st) f cdv A outer s H E0).nox (defBody st) t ∧ t { nx := fun _ H' => Q .non H', rt := Q } (start N vs) H) : FnG P w K mg base (k + 1) f fd ps sp := by
  obtain ⟨oc, od, kV, doc, pm, an, cdv, ct, osl, rfl, lk, hcd⟩ := F.ex
  constructor
  · exact len
  intro A outer s H args us vs Q hr hgd e0 hb r hsp
  have KX : K.In s.heap := e0.mod.kin.keeps fun b o e => (e0.bs b o e).1
  have lim : s.heap.NoLimit := e0.mod.nolimit.keeps fun b o e => (e0.bs b o e).1
  refine codeAny_call_function hr.depth (KX _ _ lk) rfl S.co S.gen rfl (PySem.W.codeRec_of KX hcd) (hb _ _ _ _ ?_)
  refine wpAny_newFunctionEnv_cells S.kind (fun y hy => ?_) fun env he s1 x => ?_
  · rcases S.par y.1 (List.of_mem_zip (show (y.1, y.2) ∈ ps.zip us from hy)).1 with q | q
    · exact Or.inl q
    · exact Or.inr ⟨q, PySem.W.cellsFrom_some _ _ _ (.inl q)⟩
  · subst he
    refine ⟨lim.keeps x.toInCall.keep, codeAny_func ?_⟩
    obtain ⟨t, ht, hq⟩ := hbody cdv A outer s H vs Q (hr.deeper _) hgd hsp
    have I : Inv (cxOf CX0 P w K mg base N qual (defScope st) f cdv A outer s H E0) [] (start N vs) H s1 := inv_start S hr.hd e0 (len _ _ _ _ hsp) r x
    refine wpAny_mono (ht.nox.run [] s1 _ H _ I hq) (fun fl s' hs => ?_) fun e s' hs => hs
    match fl, hs with
    | .ret u, ⟨v, σ', H', J, rv, q⟩ => exact ⟨v, H', J.os, J.bare, J.base, J.hok, rv, q⟩
    | .next, ⟨σ', H', J, q⟩ => exact ⟨V.non, H', J.os, J.bare, J.base, J.hok, rfl, q⟩
    | .brk, ⟨_, _, _, q⟩ => exact False.elim q
    | .cont, ⟨_, _, _, q⟩ => exact False.elim q
end DL
namespace DL
open PySem PySem.Spec PyProof.Rows L2
theorem getD_set_self {α : Type} {l : List α} {i : Nat} {x y : α} (h : i < l.length) : (l.set i x).getD i y = x := by
  rw [List.getD_eq_getElem?_getD, List.getElem?_set_self h]
  rfl
theorem getD_set_ne {α : Type} {l : List α} {i j : Nat} {x y : α} (h : i ≠ j) : (l.set i x).getD j y = l.getD j y := by
  rw [List.getD_eq_getElem?_getD, List.getD_eq_getElem?_getD, List.getElem?_set_ne h]
theorem ow_off {ow : Mk} {i j : Nat} (h : isOw (ow.set i false) j) : j ≠ i ∧ isOw ow j := by
  have h' : (ow.set i false).getD j false = true := h
  by_cases e : i = j
  · subst e
    by_cases hl : i < ow.length
    · rw [getD_set_self hl] at h'
      cases h'
    · rw [List.getD_eq_getElem?_getD, List.getElem?_eq_none (by rw [List.length_set]; omega)] at h'
      cases h'
  · rw [getD_set_ne e] at h'
    exact ⟨fun z => e z.symm, h'⟩
theorem ow_off_of {ow : Mk} {i j : Nat} (h : j ≠ i) (k : isOw ow j) : isOw (ow.set i false) j := by
  show (ow.set i false).getD j false = true
  rw [getD_set_ne (fun z => h z.symm)]
  exact k
theorem ow_on {ow : Mk} {i j : Nat} (h : isOw (ow.set i true) j) : j = i ∨ isOw ow j := by
  by_cases e : i = j
  · exact .inl e.symm
  · have h' : (ow.set i true).getD j false = true := h
    rw [getD_set_ne e] at h'
    exact .inr h'
theorem ow_on_of {ow : Mk} {i j : Nat} (k : isOw ow j) : isOw (ow.set i true) j := by
  show (ow.set i true).getD j false = true
  by_cases e : i = j
  · subst e
    have hl : i < ow.length := by
      by_cases hl : i < ow.length
      · exact hl
      · have k' : ow.getD i false = true := k
        rw [List.getD_eq_getElem?_getD, List.getElem?_eq_none (by omega)] at k'
        cases k'
    exact getD_set_self hl
  · rw [getD_set_ne e]
    exact k
theorem ow_on_self {ow : Mk} {i : Nat} (h : i < ow.length) : isOw (ow.set i true) i := getD_set_self h
section
variable {w : Wd} {ow : Mk} {ρ : Env} {B : Bg} {F H : Hp} {σ : Sl}
theorem set_some {α : Type} {l : List (Option α)} {i j : Nat} {x : α} {y : α} (h : (l.set i (some x))[j]? = some (some y)) : (j = i ∧ y = x) ∨ (j ≠ i ∧ l[j]? = some (some y)) := by
  by_cases e : i = j
  · subst e
    by_cases hl : i < l.length
    · rw [List.getElem?_set_self hl] at h
      cases h
      exact .inl ⟨rfl, rfl⟩
    · rw [List.getElem?_eq_none (by rw [List.length_set]; omega)] at h
      cases h
  · rw [List.getElem?_set_ne e] at h
    exact .inr ⟨fun z => e z.symm, h⟩
/-- an object of a slot is settled -/
theorem Rel.freezeO (r : Rel w ow ρ B F H σ) {i : Nat} (h1 : isOw ow i) (h2 : i ∉ w.R.map (·.1)) {d : D} (h3 : ρ[i]? = some (some d)) {a : Addr} {o o' : HO} (q : OwnAt w F H σ i d a o) (den : Den w.z (upd F a o') (.ref a) d) : Rel w (ow.set i false) ρ B (upd F a o') (upd H a o') σ := by
  have s := same_upd_free (o := o') q.nf
  refine ⟨r.gr.settleZ q.new q.nf, r.bag.settleZ q.nb q.nf, fun j e k1 k2 k3 => ?_, fun j e k1 k2 k3 => ?_, fun j l a' e e' k1 k2 => r.apart j l a' e e' (ow_off k1).2 (ow_off k2).2, fun p hp => ?_, r.len⟩
  · by_cases ej : j = i
    · subst ej
      rw [h3] at k3
      cases k3
      exact ⟨_, q.sl, den⟩
    · obtain ⟨v, e1, e2⟩ := r.set j e (fun z => k1 (ow_off_of ej z)) k2 k3
      exact ⟨v, e1, e2.mono s⟩
  · obtain ⟨ej, k1⟩ := ow_off k1
    obtain ⟨a', u', q'⟩ := r.own j e k1 k2 k3
    have ne : a' ≠ a := fun z => r.apart i j a d e h1 k1 (fun z => ej z.symm) h2 k2 h3 k3 q.sl (z ▸ q'.sl)
    exact ⟨a', u', q'.sl, q'.nb, by rw [upd_ne ne]; exact q'.nf, by rw [upd_ne ne]; exact q'.at_, q'.c.mono s, q'.new⟩
  · have q' := r.ro p hp
    obtain ⟨u', d', e1, h0, c⟩ := q'.c
    have ne : p.2 ≠ a := fun z => by
      rw [z, q.new] at h0
      cases h0
    exact ⟨q'.sl, q'.nb, by rw [upd_ne ne]; exact q'.nf, u', d', e1, h0, c.mono s⟩
theorem Rel.freezeN (r : Rel w ow ρ B F H σ) {i : Nat} (hn : ¬ (isOw ow i ∧ i ∉ w.R.map (·.1) ∧ ∃ d, ρ[i]? = some (some d))) : Rel w (ow.set i false) ρ B F H σ :=
  ⟨r.gr, r.bag, fun j d h1 h2 h3 => by
    by_cases e : j = i
    · subst e
      exact r.set j d (fun z => hn ⟨z, h2, d, h3⟩) h2 h3
    · exact r.set j d (fun z => h1 (ow_off_of e z)) h2 h3, fun j d h1 h2 h3 => r.own j d (ow_off h1).2 h2 h3, fun j l a d e h1 h2 => r.apart j l a d e (ow_off h1).2 (ow_off h2).2, r.ro, r.len⟩
theorem Rel.freeze (r : Rel w ow ρ B F H σ) (i : Nat) : Lk (fun H' => ∃ F', Rel w (ow.set i false) ρ B F' H' σ) H := by
  by_cases hi : isOw ow i ∧ i ∉ w.R.map (·.1) ∧ ∃ d, ρ[i]? = some (some d)
  · obtain ⟨h1, h2, d, h3⟩ := hi
    obtain ⟨a, o, q⟩ := r.own i d h1 h2 h3
    exact Lk.settle q.c q.at_ q.nf fun o' _ den => ⟨_, r.freezeO h1 h2 h3 q den⟩
  · exact .here ⟨F, r.freezeN hi⟩
theorem Rel.freezes (r : Rel w ow ρ B F H σ) : ∀ is : List Nat, Lk (fun H' => ∃ F', Rel w (is.foldl (fun m i => m.set i false) ow) ρ B F' H' σ) H := by
  intro is
  induction is generalizing ow F H with
  | nil => exact .here ⟨F, r⟩
  | cons i is ih => exact (r.freeze i).bind fun H1 ⟨F1, r1⟩ => ih r1
/-- a settled value is stored -/
theorem Rel.put (r : Rel w ow ρ B F H σ) {i : Nat} (hi : i ∉ w.R.map (·.1)) {v : V} {d : D} (hd : Den w.z F v d) : Rel w (ow.set i false) (ρ.set i (some d)) B F H (σ.set i (some v)) where
  gr := r.gr
  bag := r.bag
  set := fun j e h1 h2 h3 => by
    rcases set_some h3 with ⟨rfl, rfl⟩ | ⟨hj, h3⟩
    · have hl : j < ρ.length := by
        have := (List.getElem?_eq_some_iff.mp h3).1
        rwa [List.length_set] at this
      exact ⟨v, by rw [List.getElem?_set_self (by rw [← r.len]; exact hl)], hd⟩
    · obtain ⟨u, e1, e2⟩ := r.set j e (fun z => h1 (ow_off_of hj z)) h2 h3
      exact ⟨u, by rw [List.getElem?_set_ne (fun z => hj z.symm)]; exact e1, e2⟩
  own := fun j e h1 h2 h3 => by
    obtain ⟨hj, h1⟩ := ow_off h1
    rcases set_some h3 with ⟨z, _⟩ | ⟨_, h3⟩
    · exact absurd z hj
    · obtain ⟨a, o, q⟩ := r.own j e h1 h2 h3
      exact ⟨a, o, by rw [List.getElem?_set_ne (fun z => hj z.symm)]; exact q.sl, q.nb, q.nf, q.at_, q.c, q.new⟩
  apart := fun j l a e e' h1 h2 hjl h3 h4 h5 h6 => by
    obtain ⟨hj, h1⟩ := ow_off h1
    obtain ⟨hl, h2⟩ := ow_off h2
    rcases set_some h5 with ⟨z, _⟩ | ⟨_, h5⟩
    · exact absurd z hj
    rcases set_some h6 with ⟨z, _⟩ | ⟨_, h6⟩
    · exact absurd z hl
    rw [List.getElem?_set_ne (fun z => hj z.symm), List.getElem?_set_ne (fun z => hl z.symm)]
    exact r.apart j l a e e' h1 h2 hjl h3 h4 h5 h6
  ro := fun p hp => by
    have q := r.ro p hp
    obtain ⟨o, e, e1, h0, c⟩ := q.c
    have ne : i ≠ p.1 := fun z => hi (z ▸ List.mem_map_of_mem hp)
    exact ⟨by rw [List.getElem?_set_ne ne]; exact q.sl, q.nb, q.nf, o, e, by rw [List.getElem?_set_ne ne]; exact e1, h0, c⟩
  len := by rw [List.length_set, List.length_set]; exact r.len
/-- a new object is stored in a slot of its own -/
theorem Rel.putF (r : Rel w ow ρ B F H σ) {i : Nat} (hio : i < ow.length) (hi : i ∉ w.R.map (·.1)) {a : Addr} {o : HO} {d : D} (nb : a ≠ w.z.b) (nf : F a = none) (ha : H a = some o) (c : OwnC w.z F o d) (new : w.H0 a = none)
    (ne : ∀ j e, isOw ow j → j ∉ w.R.map (·.1) → ρ[j]? = some (some e) → σ[j]? ≠ some (some (.ref a))) : Rel w (ow.set i true) (ρ.set i (some d)) B F H (σ.set i (some (.ref a))) where
  gr := r.gr
  bag := r.bag
  set := fun j e h1 h2 h3 => by
    rcases set_some h3 with ⟨rfl, rfl⟩ | ⟨hj, h3⟩
    · exact absurd (ow_on_self hio) h1
    · obtain ⟨u, e1, e2⟩ := r.set j e (fun z => h1 (ow_on_of z)) h2 h3
      exact ⟨u, by rw [List.getElem?_set_ne (fun z => hj z.symm)]; exact e1, e2⟩
  own := fun j e h1 h2 h3 => by
    rcases set_some h3 with ⟨rfl, rfl⟩ | ⟨hj, h3⟩
    · have hl : j < ρ.length := by
        have := (List.getElem?_eq_some_iff.mp h3).1
        rwa [List.length_set] at this
      exact ⟨a, o, by rw [List.getElem?_set_self (by rw [← r.len]; exact hl)], nb, nf, ha, c, new⟩
    · rcases ow_on h1 with z | h1
      · exact absurd z hj
      · obtain ⟨a', o', q⟩ := r.own j e h1 h2 h3
        exact ⟨a', o', by rw [List.getElem?_set_ne (fun z => hj z.symm)]; exact q.sl, q.nb, q.nf, q.at_, q.c, q.new⟩
  apart := fun j l a' e e' h1 h2 hjl h3 h4 h5 h6 h7 => by
    rcases set_some h5 with ⟨rfl, _⟩ | ⟨hj, h5'⟩
    · rcases set_some h6 with ⟨z, _⟩ | ⟨hl, h6⟩
      · exact absurd z.symm hjl
      · have hjσ : j < σ.length := by
          have := (List.getElem?_eq_some_iff.mp h7).1
          rwa [List.length_set] at this
        rw [List.getElem?_set_self hjσ] at h7
        cases h7
        rw [List.getElem?_set_ne (fun z => hl z.symm)]
        rcases ow_on h2 with z | h2
        · exact absurd z hl
        · exact ne l e' h2 h4 h6
    · have k5 := h5'
      rcases ow_on h1 with z | k1
      · exact absurd z hj
      have k7 := h7
      rw [List.getElem?_set_ne (fun z => hj z.symm)] at k7
      rcases set_some h6 with ⟨rfl, _⟩ | ⟨hl, h6⟩
      · intro h8
        have hlσ : l < σ.length := by
          have := (List.getElem?_eq_some_iff.mp h8).1
          rwa [List.length_set] at this
        rw [List.getElem?_set_self hlσ] at h8
        cases h8
        exact ne j e k1 h3 k5 k7
      · rcases ow_on h2 with z | h2
        · exact absurd z hl
        rw [List.getElem?_set_ne (fun z => hl z.symm)]
        exact r.apart j l a' e e' k1 h2 hjl h3 h4 k5 h6 k7
  ro := fun p hp => by
    have q := r.ro p hp
    obtain ⟨o, e, e1, h0, c⟩ := q.c
    have ne : i ≠ p.1 := fun z => hi (z ▸ List.mem_map_of_mem hp)
    exact ⟨by rw [List.getElem?_set_ne ne]; exact q.sl, q.nb, q.nf, o, e, by rw [List.getElem?_set_ne ne]; exact e1, h0, c⟩
  len := by rw [List.length_set, List.length_set]; exact r.len
end
end DL
namespace DL
open PySem PySem.Spec PyProof.Rows L2
inductive Out where
  | nx (ρ : Env) | rt (d : D) | bk (ρ : Env) | ct (ρ : Env)
abbrev Sx := Env → Bg → Option (Out × Bg)
/-- what is wanted behind a statement that came to o -/
def EndsOk (w : Wd) (ow owL : Mk) (E : Ends) (B : Bg) : Out → Prop
  | .nx ρ => ∀ F H σ, Rel w ow ρ B F H σ → E.nx σ H
  | .bk ρ => ∀ F H σ, Rel w owL ρ B F H σ → E.bk σ H
  | .ct ρ => ∀ F H σ, Rel w owL ρ B F H σ → E.ct σ H
  | .rt d => ∀ F H v, Grow w.z w.F0 w.H0 F H → BagAt w.z F H B → Den w.z F v d → E.rt v H
def canS (K : Kx) (ow ow' owL : Mk) (ro : List Nat) (g : Sx) : TS := fun E σ H => ∃ (w : Wd) (ρ : Env) (B : Bg) (F : Hp) (o : Out) (B' : Bg), w.z.K = K ∧ w.R.map (·.1) = ro ∧ Rel w ow ρ B F H σ ∧ g ρ B = some (o, B') ∧ EndsOk w ow' owL E B' o
/-- the statement s does g; ow to ow': the slots whose objects may change, ahead of it and behind it; owL: at the turns of the loop around -/
def PVS (ow ow' owL : Mk) (ro : List Nat) (X : Cx) (s : Stmt) (g : Sx) : Prop := PS X s (canS X.kx ow ow' owL ro g)
def PVSs (ow ow' owL : Mk) (ro : List Nat) (X : Cx) (s : List Stmt) (g : Sx) : Prop := PSs X s (canS X.kx ow ow' owL ro g)
section
variable {X : Cx} {ow ow' ow1 owL : Mk} {ro : List Nat} {s : Stmt} {ss : List Stmt} {g h : Sx} {e : Expr} {f : Ex} {pos : Pos}
theorem PVS.of {t : TS} (hp : PS X s t) (i : ∀ (w : Wd) (ρ : Env) (B : Bg) (F H : Hp) (σ : Sl) (o : Out) (B' : Bg), w.z.K = X.kx → w.R.map (·.1) = ro → Rel w ow ρ B F H σ → g ρ B = some (o, B') → ∀ E : Ends, EndsOk w ow' owL E B' o → t E σ H) : PVS ow ow' owL ro X s g :=
  ps_weak hp fun E σ H ⟨w, ρ, B, F, o, B', hK, hR, r, hg, k⟩ => i w ρ B F H σ o B' hK hR r hg E k
def sNil : Sx := fun ρ B => some (.nx ρ, B)
def sSeq (g h : Sx) : Sx := fun ρ B => (g ρ B).bind fun p => match p.1 with
  | .nx ρ' => h ρ' p.2
  | .rt d => some (.rt d, p.2)
  | .bk ρ' => some (.bk ρ', p.2)
  | .ct ρ' => some (.ct ρ', p.2)
theorem vs_nil : PVSs ow ow owL ro X [] sNil := pss_weak pss_nil fun E σ H ⟨w, ρ, B, F, o, B', hK, hR, r, hg, k⟩ => by
  cases hg
  exact k F H σ r
theorem vs_cons (hs : PVS ow ow1 owL ro X s g) (hr : PVSs ow1 ow' owL ro X ss h) : PVSs ow ow' owL ro X (s :: ss) (sSeq g h) :=
  pss_weak (pss_cons hs hr) fun E σ H ⟨w, ρ, B, F, o, B', hK, hR, r, hg, k⟩ => by
    unfold sSeq at hg
    rw [Option.bind_eq_some_iff] at hg
    obtain ⟨⟨o1, B1⟩, e1, hg⟩ := hg
    refine ⟨w, ρ, B, F, o1, B1, hK, hR, r, e1, ?_⟩
    cases o1 with
    | nx ρ' => exact fun F1 H1 σ1 r1 => ⟨w, ρ', B1, F1, o, B', hK, hR, r1, hg, k⟩
    | rt d => cases hg; exact k
    | bk d => cases hg; exact k
    | ct d => cases hg; exact k
/-- the same without a nil behind -/
theorem vs_one (hs : PVS ow ow' owL ro X s g) : PVSs ow ow' owL ro X [s] g := pss_one hs
theorem ps_lk {s : Stmt} {t : TS} (h : PS X s t) : PS X s (fun E σ H => Lk (t E σ) H) := by
  refine ⟨fun pins s σ H E I q => ?_⟩
  induction q with
  | here p => exact h.run pins s σ _ E I p
  | step e m _ ih =>
    obtain ⟨od, I2⟩ := I.lock e m
    exact ih od I2
theorem pss_lk {t : TS} (h : PSs X ss t) : PSs X ss (fun E σ H => Lk (t E σ) H) := by
  refine ⟨fun pins s σ H E I q => ?_⟩
  induction q with
  | here p => exact h.run pins s σ _ E I p
  | step e m _ ih =>
    obtain ⟨od, I2⟩ := I.lock e m
    exact ih od I2
theorem vs_freeze (i : Nat) (hs : PVSs (ow.set i false) ow' owL ro X ss g) : PVSs ow ow' owL ro X ss g :=
  pss_weak (pss_lk hs) fun E σ H ⟨w, ρ, B, F, o, B', hK, hR, r, hg, k⟩ =>
    (r.freeze i).bind fun H' ⟨F', r'⟩ => .here ⟨w, ρ, B, F', o, B', hK, hR, r', hg, k⟩
/-- return e: all that the slots hold is settled -/
def sRet (f : Ex) : Sx := fun ρ B => (f ρ B).map fun p => (.rt p.1, p.2)
theorem v_ret (off : List Nat) (he : PV .st (off.foldl (fun m i => m.set i false) ow) ro X e f) : PVS ow ow' owL ro X (.Return (some e) pos) (sRet f) :=
  PVS.of (ps_lk (ps_ret he)) fun w ρ B F H σ o B' hK hR r hg E k => by
    unfold sRet at hg
    rw [Option.map_eq_some_iff] at hg
    obtain ⟨⟨d, B1⟩, e1, hg⟩ := hg
    cases hg
    exact (r.freezes off).bind fun H0 ⟨F0, r0⟩ => .here ⟨w, ρ, B, F0, d, _, hK, hR, r0, e1, fun v F' H' g1 b1 q1 => k F' H' v (r0.gr.trans g1) b1 q1⟩
/-- if -/
def sIf (c : Ex) (g h : Sx) : Sx := fun ρ B => (c ρ B).bind fun p => match p.1 with
  | .bl true => g ρ p.2
  | .bl false => h ρ p.2
  | _ => none
theorem v_if {c : Expr} {fc : Ex} {sa sb : List Stmt} (hc : PVT ow ro X c fc) (ha : PVSs ow ow' owL ro X sa g) (hb : PVSs ow ow' owL ro X sb h) : PVS ow ow' owL ro X (.If c sa sb pos) (sIf fc g h) :=
  PVS.of (ps_if hc ha hb) fun w ρ B F H σ o B' hK hR r hg E k => by
    unfold sIf at hg
    rw [Option.bind_eq_some_iff] at hg
    obtain ⟨⟨x, B1⟩, e1, hg⟩ := hg
    cases x with
    | bl j =>
      refine ⟨w, ρ, B, F, j, B1, hK, hR, r, e1, fun F1 H1 g1 b1 => ?_⟩
      cases j with
      | true => exact iteT ⟨w, ρ, B1, F1, o, B', hK, hR, r.grow g1 b1, hg, k⟩
      | false => exact iteF ⟨w, ρ, B1, F1, o, B', hK, hR, r.grow g1 b1, hg, k⟩
    | _ => cases hg
/-- x = e -/
def sSet (i : Nat) (f : Ex) : Sx := fun ρ B => (f ρ B).map fun p => (.nx (ρ.set i (some p.1)), p.2)
theorem sSet_some {i : Nat} {f : Ex} {ρ : Env} {B B' : Bg} {o : Out} (h : sSet i f ρ B = some (o, B')) : ∃ d, f ρ B = some (d, B') ∧ o = .nx (ρ.set i (some d)) := by
  unfold sSet at h
  rw [Option.map_eq_some_iff] at h
  obtain ⟨⟨d, B1⟩, e1, h⟩ := h
  cases h
  exact ⟨d, e1, rfl⟩
theorem v_set (i : Nat) {x : Str} {pos' : Pos} (nd : X.N.Nodup) (he : PV .st ow ro X e f) (hr : i ∉ ro := by decide) (hi : X.N[i]? = some x := by rfl) (hx : Loc X.env.scope x := by first | exact Or.inl rfl | exact Or.inr rfl)
    (hs : swapsWith e (some (.Name x pos')) pos.line X.env = pure false := by rfl) (hf : X.fn x = true ∨ X.env.scope.names.lookup x = some .local := by first | exact Or.inl rfl | exact Or.inr rfl) :
    PVS ow (ow.set i false) owL ro X (.Assign [.Name x pos'] e pos) (sSet i f) :=
  PVS.of (ps_set nd hi hx he hs hf) fun w ρ B F H σ o B' hK hR r hg E k => by
    obtain ⟨d, e1, rfl⟩ := sSet_some hg
    exact ⟨w, ρ, B, F, d, _, hK, hR, r, e1, fun v F' H' g1 b1 q1 => k F' H' _ ((r.grow g1 b1).put (hR ▸ hr) q1)⟩
/-- new objects may be stored in slots of their own -/
theorem Rel.fresh {w : Wd} {ρ : Env} {B B' : Bg} {F H F' H' : Hp} {σ : Sl} (r : Rel w ow ρ B F H σ) (g : Grow w.z F H F' H') (hb : BagAt w.z F' H' B') {v : V} {d : D} (q : Res .fr w.z H F' H' v d) {i : Nat} (hio : i < ow.length) (hi : i ∉ w.R.map (·.1)) :
    Rel w (ow.set i true) (ρ.set i (some d)) B' F' H' (σ.set i (some v)) := by
  obtain ⟨a, o, rfl, nb, n, nf, ha, c⟩ := q
  have new : w.H0 a = none := by
    cases z : w.H0 a with
    | none => rfl
    | some u =>
      rw [r.gr.keep a u nb z] at n
      cases n
  refine (r.grow g hb).putF hio hi nb nf ha c new fun j e h1 h2 h3 h4 => ?_
  obtain ⟨a', o', q'⟩ := r.own j e h1 h2 h3
  rw [q'.sl] at h4
  cases h4
  rw [q'.at_] at n
  cases n
theorem v_setF (i : Nat) {x : Str} {pos' : Pos} (nd : X.N.Nodup) (he : PV .fr ow ro X e f) (hio : i < ow.length := by decide) (hr : i ∉ ro := by decide) (hi : X.N[i]? = some x := by rfl) (hx : Loc X.env.scope x := by first | exact Or.inl rfl | exact Or.inr rfl)
    (hs : swapsWith e (some (.Name x pos')) pos.line X.env = pure false := by rfl) (hf : X.fn x = true ∨ X.env.scope.names.lookup x = some .local := by first | exact Or.inl rfl | exact Or.inr rfl) :
    PVS ow (ow.set i true) owL ro X (.Assign [.Name x pos'] e pos) (sSet i f) :=
  PVS.of (ps_set nd hi hx he hs hf) fun w ρ B F H σ o B' hK hR r hg E k => by
    obtain ⟨d, e1, rfl⟩ := sSet_some hg
    exact ⟨w, ρ, B, F, d, _, hK, hR, r, e1, fun v F' H' g1 b1 q1 => k F' H' _ (r.fresh g1 b1 q1 hio (hR ▸ hr))⟩
def putE (ρ : Env) : List Nat → List D → Env
  | i :: is, d :: ds => putE (ρ.set i (some d)) is ds
  | _, _ => ρ
def putS (σ : Sl) : List Nat → List V → Sl
  | i :: is, v :: vs => putS (σ.set i (some v)) is vs
  | _, _ => σ
def isFr : Mo → Bool
  | .fr => true
  | _ => false
def putM (ow : Mk) : List Nat → List Mo → Mk
  | i :: is, m :: ms => putM (ow.set i (isFr m)) is ms
  | _, _ => ow
def noBo : List Mo → Bool
  | [] => true
  | .bo :: _ => false
  | _ :: ms => noBo ms
theorem Rel.puts {w : Wd} {B : Bg} {F H Hb : Hp} (hb : ∀ a, a ≠ w.z.b → Hb a = none → w.H0 a = none) : ∀ (is : List Nat) (ow : Mk) (ρ : Env) (σ : Sl) (ms : List Mo) (vs : List V) (ds : List D), noBo ms = true → (∀ i ∈ is, i ∉ w.R.map (·.1) ∧ i < ow.length) → Rel w ow ρ B F H σ →
    ResA w.z Hb F H ms vs ds → (∀ (l : Nat) (v : V), ms[l]? = some Mo.fr → vs[l]? = some v → ∀ j e, isOw ow j → j ∉ w.R.map (·.1) → ρ[j]? = some (some e) → σ[j]? ≠ some (some v)) → Rel w (putM ow is ms) (putE ρ is ds) B F H (putS σ is vs)
  | [], ow, ρ, σ, ms, vs, ds, _, _, r, q, _ => by
    unfold putM putE putS
    exact r
  | i :: is, ow, ρ, σ, [], [], [], _, _, r, .nil, _ => by
    unfold putM putE putS
    exact r
  | i :: is, ow, ρ, σ, m :: ms, v :: vs, d :: ds, nb, hi, r, .cons q n q', ne => by
    unfold putM putE putS
    have h1 := hi i (List.mem_cons_self ..)
    cases m with
    | bo => cases nb
    | st =>
      refine Rel.puts hb is _ _ _ ms vs ds nb (fun j hj => ?_) (r.put h1.1 q) q' fun l u e1 e2 j e k1 k2 k3 => ?_
      · rw [List.length_set]
        exact hi j (List.mem_cons_of_mem _ hj)
      · obtain ⟨hj, k1⟩ := ow_off k1
        rcases set_some k3 with ⟨z, _⟩ | ⟨_, k3⟩
        · exact absurd z hj
        · rw [List.getElem?_set_ne (fun z => hj z.symm)]
          exact ne (l + 1) u (by simpa using e1) (by simpa using e2) j e k1 k2 k3
    | fr =>
      obtain ⟨a, o, rfl, nb', n0, nf, ha, c⟩ := q
      refine Rel.puts hb is _ _ _ ms vs ds nb (fun j hj => ?_) (r.putF h1.2 h1.1 nb' nf ha c (hb a nb' n0) (ne 0 _ rfl rfl)) q' fun l u e1 e2 j e k1 k2 k3 k4 => ?_
      · rw [List.length_set]
        exact hi j (List.mem_cons_of_mem _ hj)
      · rcases set_some k3 with ⟨z, _⟩ | ⟨hj, k3⟩
        · subst z
          have hl : j < σ.length := by
            have := (List.getElem?_eq_some_iff.mp k4).1
            rwa [List.length_set] at this
          rw [List.getElem?_set_self hl] at k4
          cases k4
          exact n rfl l _ e1 e2 rfl
        · rcases ow_on k1 with z | k1
          · exact hj z
          · rw [List.getElem?_set_ne (fun z => hj z.symm)] at k4
            exact ne (l + 1) u (by simpa using e1) (by simpa using e2) j e k1 k2 k3 k4
/-- what stood at a body's entry stands: an address that is free now was free then -/
theorem Rel.free0 {w : Wd} {ρ : Env} {B : Bg} {F H : Hp} {σ : Sl} (r : Rel w ow ρ B F H σ) : ∀ a, a ≠ w.z.b → H a = none → w.H0 a = none := fun a nb n => by
  cases z : w.H0 a with
  | none => rfl
  | some u =>
    rw [r.gr.keep a u nb z] at n
    cases n
theorem Rel.putsA {w : Wd} {ρ : Env} {B B' : Bg} {F H F' H' : Hp} {σ : Sl} (r : Rel w ow ρ B F H σ) (g : Grow w.z F H F' H') (hb : BagAt w.z F' H' B') {is : List Nat} {ms : List Mo} {vs : List V} {ds : List D} (q : ResA w.z H F' H' ms vs ds) (nb : noBo ms = true)
    (hi : ∀ i ∈ is, i ∉ w.R.map (·.1) ∧ i < ow.length) : Rel w (putM ow is ms) (putE ρ is ds) B' F' H' (putS σ is vs) :=
  Rel.puts r.free0 is ow ρ σ ms vs ds nb hi (r.grow g hb) q fun l v e1 e2 j e h1 h2 h3 h4 => by
    obtain ⟨a, rfl, n⟩ := q.frs l v e1 e2
    obtain ⟨a', o', q'⟩ := r.own j e h1 h2 h3
    rw [q'.sl] at h4
    cases h4
    rw [q'.at_] at n
    cases n
def sPar (is : List Nat) (fs : Exs) : Sx := fun ρ B => (fs ρ B).map fun p => (.nx (putE ρ is p.1), p.2)
theorem sPar_some {is : List Nat} {fs : Exs} {ρ : Env} {B B' : Bg} {o : Out} (h : sPar is fs ρ B = some (o, B')) : ∃ ds, fs ρ B = some (ds, B') ∧ o = .nx (putE ρ is ds) := by
  unfold sPar at h
  rw [Option.map_eq_some_iff] at h
  obtain ⟨⟨d, B1⟩, e1, h⟩ := h
  cases h
  exact ⟨d, e1, rfl⟩
/-- a, b = e1, e2 with plain local names -/
theorem v_par2 {i j : Nat} {x y : Str} {a b : Expr} {fs : Exs} {ms : List Mo} {px py pt : Pos} {kt k2 pt2} (nd : X.N.Nodup) (ha : PVs ms ow ro X [a, b] fs) (hc : X.calm = true := by rfl) (nb : noBo ms = true := by rfl) (h2 : ms.length = 2 := by rfl) (hio : i < ow.length ∧ j < ow.length := by decide) (hr : i ∉ ro ∧ j ∉ ro := by decide)
    (hi : X.N[i]? = some x := by rfl) (hj : X.N[j]? = some y := by rfl) (hij : i ≠ j := by decide) (hx : X.env.scope.names.lookup x = some .local := by rfl) (hy : X.env.scope.names.lookup y = some .local := by rfl)
    (hw : swappedStores [.Tuple [.Name x px, .Name y py] kt pt] (.Tuple [a, b] k2 pt2) X.env = pure (some [x, y]) := by rfl) (hs : swapsWithSole [.Tuple [.Name x px, .Name y py] kt pt] (.Tuple [a, b] k2 pt2) pos.line X.env = pure false := by rfl) :
    PVS ow (putM ow [i, j] ms) owL ro X (.Assign [.Tuple [.Name x px, .Name y py] kt pt] (.Tuple [a, b] k2 pt2) pos) (sPar [i, j] fs) :=
  PVS.of (ps_par hc nd hi hj hij hx hy ha hw hs) fun w ρ B F H σ o B' hK hR r hg E k => by
    obtain ⟨ds, e1, rfl⟩ := sPar_some hg
    refine ⟨w, ρ, B, F, ds, _, hK, hR, r, e1, fun vs F' H' g1 b1 q1 => ?_⟩
    have hl := q1.length.1.trans h2
    match vs, hl with
    | [v, u], _ => exact ⟨v, u, rfl, k F' H' _ (r.putsA g1 b1 q1 nb (is := [i, j]) (by rw [hR]; simp [hio, hr]))⟩
/-- .. with names of any kind, any number -/
def gsNames (is : List Nat) : TGs := fun vs σ H Q => vs.length = is.length ∧ Q (putS σ is vs) H
theorem gs_nil : PGs X [] (gsNames []) := ⟨fun pins s σ H vs us Q I r ⟨h, q⟩ => (pgs_nil (X := X)).run pins s σ H vs us Q I r (by
  match vs, h with
  | [], _ => exact ⟨rfl, q⟩)⟩
theorem gs_cons {i : Nat} {is : List Nat} {x : Str} {es : List Expr} {p : Pos} (nd : X.N.Nodup) (hr : PGs X es (gsNames is)) (hi : X.N[i]? = some x := by rfl) (hx : Loc X.env.scope x := by first | exact Or.inl rfl | exact Or.inr rfl)
    (hf : X.fn x = true ∨ X.env.scope.names.lookup x = some .local := by first | exact Or.inl rfl | exact Or.inr rfl) (hs : (assignEach (.Name x p :: es) X.env).map (·.2) = assign (.Name x p) X.env :: (assignEach es X.env).map (·.2) := by rfl) : PGs X (.Name x p :: es) (gsNames (i :: is)) :=
  ⟨fun pins s σ H vs us Q I r ⟨h, q⟩ => (pgs_cons (pg_name (i := i) nd hi hx hf) hr hs).run pins s σ H vs us Q I r (by
    match vs, h with
    | v :: vs, h => exact ⟨v, vs, rfl, Nat.succ.inj h, q⟩)⟩
theorem v_parN {is : List Nat} {es ts : List Expr} {fs : Exs} {ms : List Mo} {pt : Pos} {kt k2 pt2} (nd : X.N.Nodup) (ha : PVs ms ow ro X es fs) (ht : PGs X ts (gsNames is)) (hc : X.calm = true := by rfl) (nb : noBo ms = true := by rfl) (h2 : ms.length = is.length := by rfl) (hl : ms.length ≤ sizeLine := by decide)
    (hio : ∀ i ∈ is, i ∉ ro ∧ i < ow.length := by decide) (hn : (assignEach ts X.env).length = is.length := by rfl) (hst : (assignEach ts X.env).findIdx? (·.1) = none := by rfl) (hs : swapsWithSole [.Tuple ts kt pt] (.Tuple es k2 pt2) pos.line X.env = pure false := by rfl)
    (hw : swappedStores [.Tuple ts kt pt] (.Tuple es k2 pt2) X.env = pure none := by rfl) (h1 : (assignEach [.Tuple ts kt pt] X.env).map (·.2) = [assign (.Tuple ts kt pt) X.env] := by rfl) :
    PVS ow (putM ow is ms) owL ro X (.Assign [.Tuple ts kt pt] (.Tuple es k2 pt2) pos) (sPar is fs) :=
  PVS.of (ps_asg (pe_tup ha) (pg_tup (n := is.length) hc ht hn hst) hs hw h1) fun w ρ B F H σ o B' hK hR r hg E k => by
    obtain ⟨ds, e1, rfl⟩ := sPar_some hg
    refine ⟨w, ρ, B, F, ds, _, hK, hR, r, e1, fun vs F' H' g1 b1 q1 => ⟨by rw [q1.length.1]; exact hl, fun p hp => ?_⟩⟩
    refine ⟨p, vs, rfl, SqT.of upd_same, q1.length.1.trans h2, q1.length.1.trans h2, ?_⟩
    have g2 := g1.trans (Grow.laid (z := w.z) g1.sub (o := .tup vs) hp)
    exact k F' _ _ (r.putsA g2 (b1.laid hp) (q1.grow2 (Grow.laid g1.sub hp)) nb (by rw [hR]; exact hio))
end
end DL
namespace DL
open PySem PySem.Spec PyProof.Rows L2
abbrev Tg := D → Env → Option Env
abbrev Tgs := List D → Env → Option Env
def tN (i : Nat) : Tg := fun d ρ => some (ρ.set i (some d))
def tT (ts : Tgs) : Tg := fun d ρ => match d with
  | .tup ds => ts ds ρ
  | _ => none
def tsNil : Tgs := fun ds ρ => match ds with
  | [] => some ρ
  | _ => none
def tsCons (t : Tg) (ts : Tgs) : Tgs := fun ds ρ => match ds with
  | d :: ds => (t d ρ).bind fun ρ' => ts ds ρ'
  | [] => none
/-- σ' is σ but for the slots sl -/
structure Off (sl : List Nat) (σ σ' : Sl) : Prop where
  at_ : ∀ i, i ∉ sl → σ'[i]? = σ[i]?
  len : σ'.length = σ.length
def canG (K : Kx) (ow : Mk) (ro sl : List Nat) (T : Tg) : TG := fun v σ H Q => ∃ (w : Wd) (ρ : Env) (B : Bg) (F : Hp) (d : D) (ρ' : Env), w.z.K = K ∧ w.R.map (·.1) = ro ∧ Rel w ow ρ B F H σ ∧ Den w.z F v d ∧ T d ρ = some ρ' ∧ ∀ σ', Rel w ow ρ' B F H σ' → Off sl σ σ' → Q σ' H
def canGs (K : Kx) (ow : Mk) (ro sl : List Nat) (T : Tgs) : TGs := fun vs σ H Q => ∃ (w : Wd) (ρ : Env) (B : Bg) (F : Hp) (ds : List D) (ρ' : Env), w.z.K = K ∧ w.R.map (·.1) = ro ∧ Rel w ow ρ B F H σ ∧ Dens w.z F vs ds ∧ T ds ρ = some ρ' ∧ ∀ σ', Rel w ow ρ' B F H σ' → Off sl σ σ' → Q σ' H
def PVG (ow : Mk) (ro sl : List Nat) (X : Cx) (e : Expr) (T : Tg) : Prop := PG X e (canG X.kx ow ro sl T)
def PVGs (ow : Mk) (ro sl : List Nat) (X : Cx) (es : List Expr) (T : Tgs) : Prop := PGs X es (canGs X.kx ow ro sl T)
theorem pgs_weak {X : Cx} {e : List Expr} {t u : TGs} (h : PGs X e t) (i : ∀ v σ H Q, u v σ H Q → t v σ H Q) : PGs X e u := ⟨fun pins s σ H v x Q I r q => h.run pins s σ H v x Q I r (i v σ H Q q)⟩
theorem Rel.mask {w : Wd} {ow ow' : Mk} {ρ : Env} {B : Bg} {F H : Hp} {σ : Sl} (r : Rel w ow ρ B F H σ) (h : ∀ j, isOw ow j ↔ isOw ow' j) : Rel w ow' ρ B F H σ :=
  ⟨r.gr, r.bag, fun i d h1 => r.set i d (fun z => h1 ((h i).mp z)), fun i d h1 => r.own i d ((h i).mpr h1), fun i j a d e h1 h2 => r.apart i j a d e ((h i).mpr h1) ((h j).mpr h2), r.ro, r.len⟩
theorem off_same {ow : Mk} {i : Nat} (h : ow.getD i false = false) (j : Nat) : isOw (ow.set i false) j ↔ isOw ow j := by
  constructor
  · exact fun k => (ow_off k).2
  · intro k
    refine ow_off_of (fun z => ?_) k
    subst z
    have k' : ow.getD j false = true := k
    rw [h] at k'
    cases k'
section
variable {X : Cx} {ow : Mk} {ro sl sl' : List Nat} {pos : Pos} {e : Expr} {es : List Expr}
theorem vg_n (i : Nat) {x : Str} (nd : X.N.Nodup) (hw : ow.getD i false = false := by rfl) (hr : i ∉ ro := by decide) (hi : X.N[i]? = some x := by rfl) (hx : Loc X.env.scope x := by first | exact Or.inl rfl | exact Or.inr rfl)
    (hf : X.fn x = true ∨ X.env.scope.names.lookup x = some .local := by first | exact Or.inl rfl | exact Or.inr rfl) : PVG ow ro [i] X (.Name x pos) (tN i) :=
  pg_weak (pg_name nd hi hx hf) fun v σ H Q ⟨w, ρ, B, F, d, ρ', hK, hR, r, hd, hT, k⟩ => by
    cases hT
    exact k _ ((r.put (hR ▸ hr) hd).mask (off_same hw)) ⟨fun j hj => by rw [List.getElem?_set_ne (fun z => hj (by rw [z]; exact List.mem_singleton.mpr rfl))], by rw [List.length_set]⟩
theorem vgs_nil : PVGs ow ro [] X [] tsNil := pgs_weak pgs_nil fun vs σ H Q ⟨w, ρ, B, F, ds, ρ', hK, hR, r, hd, hT, k⟩ => by
  cases hd with
  | nil =>
    cases hT
    exact ⟨rfl, k σ r ⟨fun _ _ => rfl, rfl⟩⟩
  | cons a b => cases hT
theorem vgs_cons {t : Tg} {ts : Tgs} (h1 : PVG ow ro sl X e t) (h2 : PVGs ow ro sl' X es ts) (hs : (assignEach (e :: es) X.env).map (·.2) = assign e X.env :: (assignEach es X.env).map (·.2) := by rfl) : PVGs ow ro (sl ++ sl') X (e :: es) (tsCons t ts) :=
  pgs_weak (pgs_cons h1 h2 hs) fun vs σ H Q ⟨w, ρ, B, F, ds, ρ', hK, hR, r, hd, hT, k⟩ => by
    cases hd with
    | nil => cases hT
    | cons a b =>
      unfold tsCons at hT
      have hT : ((t _ ρ).bind fun ρ' => ts _ ρ') = some ρ' := hT
      rw [Option.bind_eq_some_iff] at hT
      obtain ⟨ρ1, e1, e2⟩ := hT
      refine ⟨_, _, rfl, w, ρ, B, F, _, ρ1, hK, hR, r, a, e1, fun σ1 r1 o1 => ⟨w, ρ1, B, F, _, ρ', hK, hR, r1, b, e2, fun σ2 r2 o2 => k σ2 r2 ⟨fun i hi => ?_, o2.len.trans o1.len⟩⟩⟩
      rw [List.mem_append, not_or] at hi
      exact (o2.at_ i hi.2).trans (o1.at_ i hi.1)
theorem vg_t {ts : Tgs} {n : Nat} {k : Nat} (h : PVGs ow ro sl X es ts) (hc : X.calm = true := by rfl) (hl : ∀ ds ρ ρ', ts ds ρ = some ρ' → ds.length = n) (hn : (assignEach es X.env).length = n := by rfl) (hst : (assignEach es X.env).findIdx? (·.1) = none := by rfl) :
    PVG ow ro sl X (.Tuple es k pos) (tT ts) :=
  pg_weak (pg_tup hc h hn hst) fun v σ H Q ⟨w, ρ, B, F, d, ρ', hK, hR, r, hd, hT, q⟩ => by
    cases d with
    | tup ds =>
      obtain ⟨a, vs, rfl, hs, hd⟩ := Bor.tup (F := F) (H := H) (.inl hd)
      have hT : ts ds ρ = some ρ' := hT
      rw [hK] at hs
      exact ⟨a, vs, rfl, sqt_same r.sub hs, hd.length.trans (hl _ _ _ hT), w, ρ, B, F, ds, ρ', hK, hR, r, hd, hT, q⟩
    | _ => cases hT
/-- how many a list of targets takes -/
theorem tsl_nil : ∀ ds ρ ρ', tsNil ds ρ = some ρ' → ds.length = 0 := fun ds ρ ρ' h => by
  cases ds with
  | nil => rfl
  | cons _ _ => cases h
theorem tsl_cons {t : Tg} {ts : Tgs} {n : Nat} (hl : ∀ ds ρ ρ', ts ds ρ = some ρ' → ds.length = n) : ∀ ds ρ ρ', tsCons t ts ds ρ = some ρ' → ds.length = n + 1 := fun ds ρ ρ' h => by
  cases ds with
  | nil => cases h
  | cons d ds =>
    have h : ((t d ρ).bind fun ρ' => ts ds ρ') = some ρ' := h
    rw [Option.bind_eq_some_iff] at h
    obtain ⟨ρ1, _, e2⟩ := h
    exact congrArg (· + 1) (hl _ _ _ e2)
/-- a, b = e -/
def sUnp (T : Tg) (f : Ex) : Sx := fun ρ B => (f ρ B).bind fun p => (T p.1 ρ).map fun ρ' => (.nx ρ', p.2)
theorem v_unp {T : Tg} {f : Ex} {tg : Expr} {owL : Mk} (he : PV .st ow ro X e f) (hg : PVG ow ro sl X tg T) (hs : swapsWithSole [tg] e pos.line X.env = pure false := by rfl) (hw : swappedStores [tg] e X.env = pure none := by rfl)
    (h1 : (assignEach [tg] X.env).map (·.2) = [assign tg X.env] := by rfl) : PVS ow ow owL ro X (.Assign [tg] e pos) (sUnp T f) :=
  PVS.of (ps_asg he hg hs hw h1) fun w ρ B F H σ o B' hK hR r hf E k => by
    unfold sUnp at hf
    rw [Option.bind_eq_some_iff] at hf
    obtain ⟨⟨d, B1⟩, e1, hf⟩ := hf
    rw [Option.map_eq_some_iff] at hf
    obtain ⟨ρ', e2, hf⟩ := hf
    cases hf
    exact ⟨w, ρ, B, F, d, _, hK, hR, r, e1, fun v F' H' g1 b1 q1 => ⟨w, ρ, _, F', d, ρ', hK, hR, r.grow g1 b1, q1, e2, fun σ' r' _ => k F' H' σ' r'⟩⟩
end
/-- the iterator J walks ds, wherever F1 is settled and R1 stands -/
structure IterOk (z : Bs) (J : It) (F1 R1 : Hp) (ds : List D) : Prop where
  go : ∀ (i : Nat) (F H : Hp), Same F1 F → Same F H → Same R1 H → i < ds.length → J.go i H
  yld : ∀ (i : Nat) (F H : Hp) (B : Bg), Same F1 F → Same F H → Same R1 H → BagAt z F H B → ∀ (x : V) (H' : Hp), J.yld i H x H' → ∀ d, ds[i]? = some d → ∃ F', Grow z F H F' H' ∧ BagAt z F' H' B ∧ Den z F' x d
  stop : ∀ (i : Nat) (F H : Hp), Same F1 F → Same F H → Same R1 H → ds.length ≤ i → J.stop i H
/-- R1 bears what the slots us hold -/
def RoR (w : Wd) (ow : Mk) (us : List Nat) (ρ : Env) (σ : Sl) (F H R1 : Hp) : Prop :=
  ∀ a o, R1 a = some o → a ≠ w.z.b ∧ F a = none ∧ H a = some o ∧ ∃ i ∈ us, isOw ow i ∧ i ∉ w.R.map (·.1) ∧ (∃ d, ρ[i]? = some (some d)) ∧ σ[i]? = some (some (.ref a))
def canI (K : Kx) (ow : Mk) (ro us : List Nat) (fi : Exs) : TI := fun σ H R => ∃ (w : Wd) (ρ : Env) (B : Bg) (F : Hp) (ds : List D) (B' : Bg), w.z.K = K ∧ w.R.map (·.1) = ro ∧ Rel w ow ρ B F H σ ∧ fi ρ B = some (ds, B') ∧
  ∀ J F' H' R1, Grow w.z F H F' H' → BagAt w.z F' H' B' → RoR w ow us ρ σ F' H' R1 → IterOk w.z J F' R1 ds → R J H'
def PVI (ow : Mk) (ro us : List Nat) (X : Cx) (tg e : Expr) (fi : Exs) : Prop := PI X tg e (canI X.kx ow ro us fi)
def noR : Hp := fun _ => none
theorem ror_none {w : Wd} {ow : Mk} {us : List Nat} {ρ : Env} {σ : Sl} {F H : Hp} : RoR w ow us ρ σ F H noR := fun a o h => nomatch h
def oneR (a : Addr) (o : HO) : Hp := fun c => if c = a then some o else none
theorem oneR_at {a : Addr} {o : HO} : oneR a o a = some o := if_pos rfl
theorem oneR_some {a c : Addr} {o u : HO} (h : oneR a o c = some u) : c = a ∧ u = o := by
  unfold oneR at h
  by_cases z : c = a
  · rw [if_pos z] at h
    cases h
    exact ⟨z, rfl⟩
  · rw [if_neg z] at h
    cases h
def itemsOf : D → Option (List D)
  | .lst ds => some ds
  | .tup ds => some ds
  | .tn ds => some ds
  | .str x => some (x.cps.toList.map fun c => .str ⟨#[c]⟩)
  | _ => none
def xIt (f : Ex) : Exs := fun ρ B => (f ρ B).bind fun p => (itemsOf p.1).map fun ds => (ds, p.2)
theorem pi_or {X : Cx} {tg e : Expr} {t u : TI} (h : PI X tg e t) (h' : PI X tg e u) : PI X tg e (fun σ H R => t σ H R ∨ u σ H R) := ⟨fun pins s σ H R I q => q.elim (h.run pins s σ H R I) (h'.run pins s σ H R I)⟩
theorem pe_or {X : Cx} {e : Expr} {t u : TE} (h : PE X e t) (h' : PE X e u) : PE X e (fun σ H R => t σ H R ∨ u σ H R) := ⟨fun pins s σ H R I q => q.elim (h.run pins s σ H R I) (h'.run pins s σ H R I)⟩
theorem iter_list {z : Bs} {F1 R1 : Hp} {a : Addr} {vs : List V} {ds : List D} (h : ∀ F H, Same F1 F → Same F H → Same R1 H → H a = some (.lst vs)) (hd : Dens z F1 vs ds) : IterOk z (Itl z.K a) F1 R1 ds where
  go := fun i F H h1 h2 h3 hi => by
    have hi' : i < vs.length := by rw [hd.length]; exact hi
    exact ⟨vs, vs[i], SqL.of (h F H h1 h2 h3), List.getElem?_eq_getElem hi'⟩
  yld := fun i F H B h1 h2 h3 hb x H' hy d e => by
    obtain ⟨e', q⟩ := hy
    rw [e']
    have q := q vs (SqL.of (h F H h1 h2 h3))
    obtain ⟨v, e1, e2⟩ := hd.get e
    rw [q] at e1
    cases e1
    exact ⟨F, Grow.refl h2, hb, e2.mono h1⟩
  stop := fun i F H h1 h2 h3 hi => ⟨vs, SqL.of (h F H h1 h2 h3), by rw [hd.length]; exact hi⟩
theorem iter_tup {z : Bs} {F1 R1 : Hp} {a : Addr} {vs : List V} {ds : List D} (h : SqT z.K F1 a vs) (hd : Dens z F1 vs ds) : IterOk z (Itt z.K a) F1 R1 ds where
  go := fun i F H h1 h2 h3 hi => by
    have hi' : i < vs.length := by rw [hd.length]; exact hi
    exact ⟨vs, vs[i], sqt_same h2 (sqt_same h1 h), List.getElem?_eq_getElem hi'⟩
  yld := fun i F H B h1 h2 h3 hb x H' hy d e => by
    obtain ⟨e', q⟩ := hy
    rw [e']
    have q := q vs (sqt_same h2 (sqt_same h1 h))
    obtain ⟨v, e1, e2⟩ := hd.get e
    rw [q] at e1
    cases e1
    exact ⟨F, Grow.refl h2, hb, e2.mono h1⟩
  stop := fun i F H h1 h2 h3 hi => ⟨vs, sqt_same h2 (sqt_same h1 h), by rw [hd.length]; exact hi⟩
theorem iter_str {z : Bs} {F1 R1 : Hp} (x : Str) : IterOk z (Its x) F1 R1 (x.cps.toList.map fun c => .str ⟨#[c]⟩) where
  go := fun i F H h1 h2 h3 hi => by
    have : i < x.cps.size := by simpa using hi
    exact this
  yld := fun i F H B h1 h2 h3 hb v H' hy d e => by
    obtain ⟨e', c, q, e''⟩ := hy
    rw [e', e'']
    rw [List.getElem?_map] at e
    have q' : x.cps.toList[i]? = some c := by simpa using q
    rw [q'] at e
    cases e
    exact ⟨F, Grow.refl h2, hb, .str _⟩
  stop := fun i F H h1 h2 h3 hi => by
    have : x.cps.size ≤ i := by simpa using hi
    exact this
section
variable {X : Cx} {ow : Mk} {ro us : List Nat} {pos p : Pos} {e tg : Expr} {f : Ex}
theorem PVI.of {t : TI} {fi : Exs} (h : PI X tg e t) (i : ∀ (w : Wd) (ρ : Env) (B : Bg) (F H : Hp) (σ : Sl) (ds : List D) (B' : Bg), w.z.K = X.kx → w.R.map (·.1) = ro → Rel w ow ρ B F H σ → fi ρ B = some (ds, B') →
    ∀ R : It → Hp → Prop, (∀ J F' H' R1, Grow w.z F H F' H' → BagAt w.z F' H' B' → RoR w ow us ρ σ F' H' R1 → IterOk w.z J F' R1 ds → R J H') → t σ H R) : PVI ow ro us X tg e fi :=
  pi_weak h fun σ H R ⟨w, ρ, B, F, ds, B', hK, hR, r, hf, k⟩ => i w ρ B F H σ ds B' hK hR r hf R k
/-- a list, a text that is settled -/
theorem vi_lst (he : PV .st ow ro X e f) : PVI ow ro us X tg e (xIt f) :=
  PVI.of (pi_or (pi_list he) (pi_or (pi_str he) (pi_tup he))) fun w ρ B F H σ ds B' hK hR r hf R k => by
    unfold xIt at hf
    rw [Option.bind_eq_some_iff] at hf
    obtain ⟨⟨d, B1⟩, e1, hf⟩ := hf
    rw [Option.map_eq_some_iff] at hf
    obtain ⟨es, e2, hf⟩ := hf
    cases hf
    cases d with
    | lst ds' =>
      cases e2
      refine .inl ⟨w, ρ, B, F, _, _, hK, hR, r, e1, fun v F' H' g1 b1 q1 => ?_⟩
      cases (show Den w.z F' v (.lst _) from q1) with
      | lst h hd =>
        refine ⟨_, rfl, ⟨_, SqL.of (g1.sub _ _ h)⟩, ?_⟩
        rw [← kxf hK]
        exact k _ F' H' noR g1 b1 ror_none (iter_list (fun F2 H2 h1 h2 _ => h2 _ _ (h1 _ _ h)) hd)
    | str x =>
      cases e2
      refine .inr (.inl ⟨w, ρ, B, F, _, _, hK, hR, r, e1, fun v F' H' g1 b1 q1 => ?_⟩)
      cases (show Den w.z F' v (.str _) from q1) with
      | str x => exact ⟨x, rfl, k _ F' H' noR g1 b1 ror_none (iter_str x)⟩
    | tup ds' =>
      cases e2
      refine .inr (.inr ⟨w, ρ, B, F, _, _, hK, hR, r, e1, fun v F' H' g1 b1 q1 => ?_⟩)
      cases (show Den w.z F' v (.tup _) from q1) with
      | tup h hd =>
        have hh := sqt_same g1.sub h
        rw [hK] at hh
        refine ⟨_, rfl, ⟨_, hh⟩, ?_⟩
        rw [← kxf hK]
        exact k _ F' H' noR g1 b1 ror_none (iter_tup h hd)
    | tn ds' =>
      cases e2
      refine .inr (.inr ⟨w, ρ, B, F, _, _, hK, hR, r, e1, fun v F' H' g1 b1 q1 => ?_⟩)
      cases (show Den w.z F' v (.tn _) from q1) with
      | tn h hd =>
        have h : SqT w.z.K F' _ _ := h.sqt
        have hh := sqt_same g1.sub h
        rw [hK] at hh
        refine ⟨_, rfl, ⟨_, hh⟩, ?_⟩
        rw [← kxf hK]
        exact k _ F' H' noR g1 b1 ror_none (iter_tup h hd)
    | _ => cases e2
/-- what an own slot holds, walked by a for or a comprehension -/
theorem vi_own (i : Nat) {x : Str} (hi : i ∈ us) (hw : ow.getD i false = true := by rfl) (hr : i ∉ ro := by decide) (hN : X.N[i]? = some x := by rfl) (hv : Vis X.env.scope x := by first | exact Or.inl rfl | exact Or.inr (Or.inl rfl) | exact Or.inr (Or.inr rfl))
    (hd : (x == ("__debug__" : Str)) = false := by decide) (hcd : (x == ("__classdict__" : Str)) = false := by decide) : PVI ow ro us X tg (.Name x pos) (xIt (xV i)) :=
  PVI.of (pi_list (pe_var hN hv hd hcd)) fun w ρ B F H σ ds B' hK hR r hf R k => by
    unfold xIt at hf
    rw [Option.bind_eq_some_iff] at hf
    obtain ⟨⟨d, B1⟩, e1, hf⟩ := hf
    rw [Option.map_eq_some_iff] at hf
    obtain ⟨es, e2, hf⟩ := hf
    cases hf
    obtain ⟨e3, rfl⟩ := xV_some e1
    obtain ⟨a, o, q⟩ := r.own i d hw (hR ▸ hr) e3
    cases q.c with
    | lst hd =>
      cases e2
      refine ⟨_, q.sl, a, rfl, ⟨_, SqL.of q.at_⟩, ?_⟩
      rw [← kxf hK]
      refine k _ F H (oneR a (.lst _)) (Grow.refl r.sub) r.bag (fun c o e => ?_) (iter_list (fun F2 H2 h1 h2 h3 => h3 _ _ oneR_at) hd)
      obtain ⟨rfl, rfl⟩ := oneR_some e
      exact ⟨q.nb, q.nf, q.at_, i, hi, hw, hR ▸ hr, ⟨_, e3⟩, q.sl⟩
    | dK _ => cases e2
    | dT _ => cases e2
/-- range(n) -/
def xRng1 (f : Ex) : Exs := fun ρ B => (f ρ B).bind fun p => match p.1 with
  | .int j => if j < 2 ^ 62 ∧ -(2 ^ 62) ≤ j then some ((List.range j.toNat).map fun k => .int (k : Nat), p.2) else none
  | _ => none
def xRng2 (f g : Ex) : Exs := fun ρ B => (f ρ B).bind fun p => (g ρ p.2).bind fun q => match p.1, q.1 with
  | .int i, .int j => if (j < 2 ^ 62 ∧ -(2 ^ 62) ≤ j) ∧ (i < 2 ^ 62 ∧ -(2 ^ 62) ≤ i) then some ((List.range (j - i).toNat).map fun k => .int (i + (k : Nat)), q.2) else none
  | _, _ => none
theorem iter_rng {z : Bs} {F1 R1 : Hp} (lo : Int) (n : Nat) : IterOk z (Itr lo n) F1 R1 ((List.range n).map fun k => .int (lo + (k : Nat))) where
  go := fun i F H h1 h2 h3 hi => by
    have : i < n := by simpa using hi
    exact this
  yld := fun i F H B h1 h2 h3 hb v H' hy d e => by
    obtain ⟨e', e''⟩ := hy
    rw [e', e'']
    rw [List.getElem?_map] at e
    have hi : i < n := by
      cases q : (List.range n)[i]? with
      | none =>
        rw [q] at e
        cases e
      | some k =>
        have := (List.getElem?_eq_some_iff.mp q).1
        simpa using this
    rw [List.getElem?_range hi] at e
    cases e
    exact ⟨F, Grow.refl h2, hb, .int _⟩
  stop := fun i F H h1 h2 h3 hi => by
    have : n ≤ i := by simpa using hi
    exact this
theorem vi_rng1 {e : Expr} (he : PV .bo ow ro X e f) (hm : X.mg "range" = none) (hg : Gl X "range" := by rfl) (hs : starEach [e] X.env = [(false, eval e X.env)] := by rfl) : PVI ow ro us X tg (.Call (.Name "range" p) [e] [] pos) (xRng1 f) :=
  PVI.of (pi_range1 hg hm (pa_cons he pa_nil hs) hs) fun w ρ B F H σ ds B' hK hR r hf R k => by
    unfold xRng1 at hf
    rw [Option.bind_eq_some_iff] at hf
    obtain ⟨⟨d, B1⟩, e1, hf⟩ := hf
    cases d with
    | int j =>
      have hf : (if j < 2 ^ 62 ∧ -(2 ^ 62) ≤ j then some ((List.range j.toNat).map fun k => D.int (k : Nat), B1) else none) = some (ds, B') := hf
      by_cases hj : j < 2 ^ 62 ∧ -(2 ^ 62) ≤ j
      · rw [if_pos hj] at hf
        cases hf
        refine ⟨w, ρ, B, F, _, _, hK, hR, r, e1, fun v F' H' g1 b1 q1 => ?_⟩
        refine ⟨j, by rw [Bor.int q1], hj.2, hj.1, k _ F' H' noR g1 b1 ror_none ?_⟩
        have e : ((List.range j.toNat).map fun k => D.int (k : Nat)) = (List.range j.toNat).map fun k => D.int (0 + (k : Nat)) := by
          simp
        rw [e]
        exact iter_rng 0 _
      · rw [if_neg hj] at hf
        cases hf
    | _ => cases hf
theorem vi_rng2 {e e2 : Expr} {g : Ex} (he : PV .bo ow ro X e f) (he2 : PV .bo ow ro X e2 g) (hm : X.mg "range" = none) (hg : Gl X "range" := by rfl) (hs : starEach [e, e2] X.env = [(false, eval e X.env), (false, eval e2 X.env)] := by rfl) (hs2 : starEach [e2] X.env = [(false, eval e2 X.env)] := by rfl) :
    PVI ow ro us X tg (.Call (.Name "range" p) [e, e2] [] pos) (xRng2 f g) :=
  PVI.of (pi_range2 hg hm (pa_cons he (pa_cons he2 pa_nil hs2) (by rw [hs, hs2])) hs hs2) fun w ρ B F H σ ds B' hK hR r hf R k => by
    unfold xRng2 at hf
    rw [Option.bind_eq_some_iff] at hf
    obtain ⟨⟨d, B1⟩, e1, hf⟩ := hf
    rw [Option.bind_eq_some_iff] at hf
    obtain ⟨⟨d2, B2⟩, e2, hf⟩ := hf
    cases d with
    | int i =>
      cases d2 with
      | int j =>
        have hf : (if (j < 2 ^ 62 ∧ -(2 ^ 62) ≤ j) ∧ (i < 2 ^ 62 ∧ -(2 ^ 62) ≤ i) then some ((List.range (j - i).toNat).map fun k => D.int (i + (k : Nat)), B2) else none) = some (ds, B') := hf
        by_cases hj : (j < 2 ^ 62 ∧ -(2 ^ 62) ≤ j) ∧ (i < 2 ^ 62 ∧ -(2 ^ 62) ≤ i)
        · rw [if_pos hj] at hf
          cases hf
          refine ⟨w, ρ, B, F, _, _, hK, hR, r, e1, fun v F' H' g1 b1 q1 => ?_⟩
          refine ⟨w, ρ, _, F', _, _, hK, hR, r.grow g1 b1, e2, fun v2 F2 H2 g2 b2 q2 => ?_⟩
          exact ⟨i, j, by rw [Bor.int q1, Bor.int q2], ⟨hj.2.2, hj.2.1, hj.1.2, hj.1.1⟩, k _ F2 H2 noR (g1.trans g2) b2 ror_none (iter_rng i _)⟩
        · rw [if_neg hj] at hf
          cases hf
      | _ => cases hf
    | _ => cases hf
/-- enumerate -/
def xEnum (f : Ex) : Exs := fun ρ B => (f ρ B).bind fun p => match p.1 with
  | .lst ds => some (ds.zipIdx.map fun q => .tup [.int (q.2 : Nat), q.1], p.2)
  | _ => none
theorem iter_enum {z : Bs} {F1 R1 : Hp} {a : Addr} {vs : List V} {ds : List D} (h : ∀ F H, Same F1 F → Same F H → Same R1 H → H a = some (.lst vs)) (hd : Dens z F1 vs ds) : IterOk z (Ite z.K a) F1 R1 (ds.zipIdx.map fun q => .tup [.int (q.2 : Nat), q.1]) where
  go := fun i F H h1 h2 h3 hi => by
    have hi' : i < vs.length := by
      rw [hd.length]
      simpa using hi
    exact ⟨vs, vs[i], SqL.of (h F H h1 h2 h3), List.getElem?_eq_getElem hi'⟩
  yld := fun i F H B h1 h2 h3 hb x H' hy d e => by
    obtain ⟨T, y, e', hT, e'', q⟩ := hy
    rw [e', e'']
    have q := q vs (SqL.of (h F H h1 h2 h3))
    obtain ⟨d', e1, e2⟩ := hd.get' q
    rw [List.getElem?_map, List.getElem?_zipIdx, e1] at e
    have e : some (D.tup [.int ((0 + i : Nat)), d']) = some d := e
    cases e
    refine ⟨_, Grow.laidS h2 hT, hb.laidS h2 hT, .tup (SqT.of upd_same) ?_⟩
    rw [Nat.zero_add]
    exact .cons (.int _) (.one ((e2.mono h1).mono (same_upd_free (free_of h2 hT))))
  stop := fun i F H h1 h2 h3 hi => ⟨vs, SqL.of (h F H h1 h2 h3), by
    rw [hd.length]
    simpa using hi⟩
theorem vi_enum {e : Expr} {elts : List Expr} {kk : Nat} {tpos : Pos} (he : PV .st ow ro X e f) (hm : X.mg "enumerate" = none) (hg : Gl X "enumerate" := by rfl) (hs : starEach [e] X.env = [(false, eval e X.env)] := by rfl) :
    PVI ow ro us X (.Tuple elts kk tpos) (.Call (.Name "enumerate" p) [e] [] pos) (xEnum f) :=
  PVI.of (pi_enum hg hm (pa_cons he pa_nil hs) hs) fun w ρ B F H σ ds B' hK hR r hf R k => by
    unfold xEnum at hf
    rw [Option.bind_eq_some_iff] at hf
    obtain ⟨⟨d, B1⟩, e1, hf⟩ := hf
    cases d with
    | lst ds' =>
      cases hf
      refine ⟨w, ρ, B, F, _, _, hK, hR, r, e1, fun v F' H' g1 b1 q1 => ?_⟩
      cases (show Den w.z F' v (.lst _) from q1) with
      | lst h hd =>
        refine ⟨_, _, rfl, SqL.of (g1.sub _ _ h), ?_⟩
        rw [← kxf hK]
        exact k _ F' H' noR g1 b1 ror_none (iter_enum (fun F2 H2 h1 h2 _ => h2 _ _ (h1 _ _ h)) hd)
    | _ => cases hf
end
end DL
namespace DL
open PySem PySem.Spec PyProof.Rows L2
/-- c is what a slot of its own holds, and the slot is not i -/
def OwnAddr (w : Wd) (ow : Mk) (ρ : Env) (σ : Sl) (i : Option Nat) (c : Addr) : Prop := ∃ j d, isOw ow j ∧ j ∉ w.R.map (·.1) ∧ ρ[j]? = some (some d) ∧ σ[j]? = some (some (.ref c)) ∧ i ≠ some j
open Classical in
noncomputable def snap (w : Wd) (ow : Mk) (ρ : Env) (σ : Sl) (i : Option Nat) (H : Hp) : Hp := fun c => if OwnAddr w ow ρ σ i c then none else H c
theorem snap_own {w : Wd} {ow : Mk} {ρ : Env} {σ : Sl} {i : Option Nat} {H : Hp} {c : Addr} (h : OwnAddr w ow ρ σ i c) : snap w ow ρ σ i H c = none := if_pos h
theorem snap_not {w : Wd} {ow : Mk} {ρ : Env} {σ : Sl} {i : Option Nat} {H : Hp} {c : Addr} (h : ¬ OwnAddr w ow ρ σ i c) : snap w ow ρ σ i H c = H c := if_neg h
theorem snap_some {w : Wd} {ow : Mk} {ρ : Env} {σ : Sl} {i : Option Nat} {H : Hp} {c : Addr} {o : HO} (h : snap w ow ρ σ i H c = some o) : ¬ OwnAddr w ow ρ σ i c ∧ H c = some o := by
  by_cases q : OwnAddr w ow ρ σ i c
  · rw [snap_own q] at h
    cases h
  · rw [snap_not q] at h
    exact ⟨q, h⟩
section
variable {w : Wd} {ow : Mk} {ρ : Env} {B : Bg} {F H : Hp} {σ : Sl}
theorem OwnAddr.new (r : Rel w ow ρ B F H σ) {i : Option Nat} {c : Addr} (h : OwnAddr w ow ρ σ i c) : w.H0 c = none := by
  obtain ⟨j, d, h1, h2, h3, h4, _⟩ := h
  obtain ⟨a, o, q⟩ := r.own j d h1 h2 h3
  have e := q.sl
  rw [h4] at e
  cases e
  exact q.new
/-- what holds of the entry holds of a loop's entry, and back -/
theorem Rel.back0 (r : Rel w ow ρ B F H σ) (i : Option Nat) {F' H' : Hp} (g : Grow w.z F (snap w ow ρ σ i H) F' H') : Grow w.z w.F0 w.H0 F' H' where
  le := r.gr.le.trans g.le
  sub := g.sub
  keep := fun a o ha e => g.keep a o ha (by
    rw [snap_not (fun q => by
      rw [q.new r] at e
      cases e)]
    exact r.gr.keep a o ha e)
  nf := fun a ha e n => g.nf a ha (r.gr.nf a ha e n) (by
    rw [snap_not (fun q => n (q.new r))]
    exact r.gr.stood ha n)
theorem Rel.enter (r : Rel w ow ρ B F H σ) : Rel { z := w.z, R := w.R, F0 := F, H0 := snap w ow ρ σ none H } ow ρ B F H σ where
  gr := ⟨Same.refl F, r.sub, fun a o _ e => (snap_some e).2, fun a _ e _ => e⟩
  bag := r.bag
  set := r.set
  own := fun j d h1 h2 h3 => by
    obtain ⟨a, o, q⟩ := r.own j d h1 h2 h3
    exact ⟨a, o, q.sl, q.nb, q.nf, q.at_, q.c, snap_own ⟨j, d, h1, h2, h3, q.sl, fun z => nomatch z⟩⟩
  apart := r.apart
  ro := fun p hp => by
    have q := r.ro p hp
    obtain ⟨o, d, e1, h0, c⟩ := q.c
    refine ⟨q.sl, q.nb, q.nf, o, d, e1, ?_, c⟩
    have n : ¬ OwnAddr w ow ρ σ none p.2 := fun z => by
      rw [z.new r] at h0
      cases h0
    show snap w ow ρ σ none H p.2 = some o
    rw [snap_not n]
    exact r.gr.keep _ _ q.nb h0
  len := r.len
theorem Rel.leave (r : Rel w ow ρ B F H σ) {ρ' : Env} {B' : Bg} {F' H' : Hp} {σ' : Sl} (r' : Rel { z := w.z, R := w.R, F0 := F, H0 := snap w ow ρ σ none H } ow ρ' B' F' H' σ') : Rel w ow ρ' B' F' H' σ' where
  gr := r.back0 none r'.gr
  bag := r'.bag
  set := r'.set
  own := fun j d h1 h2 h3 => by
    obtain ⟨a, o, q⟩ := r'.own j d h1 h2 h3
    refine ⟨a, o, q.sl, q.nb, q.nf, q.at_, q.c, ?_⟩
    have e : snap w ow ρ σ none H a = none := q.new
    by_cases z : OwnAddr w ow ρ σ none a
    · exact z.new r
    · rw [snap_not z] at e
      exact r.free0 a q.nb e
  apart := r'.apart
  ro := fun p hp => by
    have q := r'.ro p hp
    obtain ⟨o, d, e1, h0, c⟩ := q.c
    refine ⟨q.sl, q.nb, q.nf, o, d, e1, ?_, c⟩
    have q0 := r.ro p hp
    obtain ⟨o0, d0, _, h00, _⟩ := q0.c
    have h0 : snap w ow ρ σ none H p.2 = some o := h0
    have e2 := (snap_some h0).2
    rw [r.gr.keep _ _ q0.nb h00] at e2
    cases e2
    exact h00
  len := r'.len
/-- the slot i is walked: its object stays -/
theorem Rel.enterO (r : Rel w ow ρ B F H σ) {i : Nat} {d : D} {a : Addr} {o : HO} (hi : isOw ow i) (hr : i ∉ w.R.map (·.1)) (he : ρ[i]? = some (some d)) (qa : OwnAt w F H σ i d a o) :
    Rel { z := w.z, R := (i, a) :: w.R, F0 := F, H0 := snap w ow ρ σ (some i) H } (ow.set i false) ρ B F H σ where
  gr := ⟨Same.refl F, r.sub, fun a o _ e => (snap_some e).2, fun a _ e _ => e⟩
  bag := r.bag
  set := fun j d h1 h2 h3 => by
    have h2 : j ∉ i :: w.R.map (·.1) := h2
    rw [List.mem_cons, not_or] at h2
    exact r.set j d (fun z => h1 (ow_off_of h2.1 z)) h2.2 h3
  own := fun j d' h1 h2 h3 => by
    have h2 : j ∉ i :: w.R.map (·.1) := h2
    rw [List.mem_cons, not_or] at h2
    obtain ⟨hj, h1⟩ := ow_off h1
    obtain ⟨a', o', q⟩ := r.own j d' h1 h2.2 h3
    exact ⟨a', o', q.sl, q.nb, q.nf, q.at_, q.c, snap_own ⟨j, d', h1, h2.2, h3, q.sl, fun z => hj (Option.some.inj z).symm⟩⟩
  apart := fun j l a' d' e h1 h2 hjl h3 h4 => by
    have h3 : j ∉ i :: w.R.map (·.1) := h3
    have h4 : l ∉ i :: w.R.map (·.1) := h4
    rw [List.mem_cons, not_or] at h3 h4
    exact r.apart j l a' d' e (ow_off h1).2 (ow_off h2).2 hjl h3.2 h4.2
  ro := fun p hp => by
    have hp : p ∈ (i, a) :: w.R := hp
    rcases List.mem_cons.mp hp with rfl | hp
    · refine ⟨qa.sl, qa.nb, qa.nf, o, d, he, ?_, qa.c⟩
      have n : ¬ OwnAddr w ow ρ σ (some i) a := fun ⟨j, d', h1, h2, h3, h4, h5⟩ => r.apart i j a d d' hi h1 (fun z => h5 (congrArg some z)) hr h2 he h3 qa.sl h4
      show snap w ow ρ σ (some i) H a = some o
      rw [snap_not n]
      exact qa.at_
    · have q := r.ro p hp
      obtain ⟨o, d, e1, h0, c⟩ := q.c
      refine ⟨q.sl, q.nb, q.nf, o, d, e1, ?_, c⟩
      have n : ¬ OwnAddr w ow ρ σ (some i) p.2 := fun z => by
        rw [z.new r] at h0
        cases h0
      show snap w ow ρ σ (some i) H p.2 = some o
      rw [snap_not n]
      exact r.gr.keep _ _ q.nb h0
  len := r.len
theorem Rel.leaveO (r : Rel w ow ρ B F H σ) {i : Nat} {d : D} {a : Addr} {o : HO} (hi : isOw ow i) (hr : i ∉ w.R.map (·.1)) (he : ρ[i]? = some (some d)) (qa : OwnAt w F H σ i d a o) {ρ' : Env} {B' : Bg} {F' H' : Hp} {σ' : Sl}
    (r' : Rel { z := w.z, R := (i, a) :: w.R, F0 := F, H0 := snap w ow ρ σ (some i) H } (ow.set i false) ρ' B' F' H' σ') : Rel w ow ρ' B' F' H' σ' where
  gr := r.back0 (some i) r'.gr
  bag := r'.bag
  set := fun j d' h1 h2 h3 => r'.set j d' (fun z => h1 (ow_off z).2) (by
    show j ∉ i :: w.R.map (·.1)
    rw [List.mem_cons, not_or]
    exact ⟨fun z => h1 (z ▸ hi), h2⟩) h3
  own := fun j d' h1 h2 h3 => by
    by_cases hj : j = i
    · subst hj
      have q := r'.ro (j, a) (List.mem_cons_self ..)
      obtain ⟨o', d'', e1, h0, c⟩ := q.c
      have e1 : ρ'[j]? = some (some d'') := e1
      rw [h3] at e1
      cases e1
      exact ⟨a, o', q.sl, q.nb, q.nf, r'.gr.keep _ _ q.nb h0, c, qa.new⟩
    · obtain ⟨a', o', q⟩ := r'.own j d' (ow_off_of hj h1) (by
        show j ∉ i :: w.R.map (·.1)
        rw [List.mem_cons, not_or]
        exact ⟨hj, h2⟩) h3
      refine ⟨a', o', q.sl, q.nb, q.nf, q.at_, q.c, ?_⟩
      have e : snap w ow ρ σ (some i) H a' = none := q.new
      by_cases z : OwnAddr w ow ρ σ (some i) a'
      · exact z.new r
      · rw [snap_not z] at e
        exact r.free0 a' q.nb e
  apart := fun j l a' d' e h1 h2 hjl h3 h4 h5 h6 h7 h8 => by
    have mem : ∀ {x : Nat}, x ≠ i → x ∉ w.R.map (·.1) → x ∉ i :: w.R.map (·.1) := fun h k => by
      rw [List.mem_cons, not_or]
      exact ⟨h, k⟩
    have one : ∀ {x : Nat} {y : D}, x ≠ i → isOw ow x → x ∉ w.R.map (·.1) → ρ'[x]? = some (some y) → σ'[x]? = some (some (.ref a')) → a' ≠ a := fun {x y} hx k1 k2 k3 k4 z => by
      obtain ⟨a2, o2, q⟩ := r'.own x y (ow_off_of hx k1) (mem hx k2) k3
      rw [q.sl] at k4
      cases k4
      have q0 := r'.ro (i, a) (List.mem_cons_self ..)
      obtain ⟨o', d'', e1, h0, c⟩ := q0.c
      have h0 : snap w ow ρ σ (some i) H a = some o' := h0
      have e2 : snap w ow ρ σ (some i) H a' = none := q.new
      rw [z, h0] at e2
      cases e2
    have at0 := (r'.ro (i, a) (List.mem_cons_self ..)).sl
    have at0 : σ'[i]? = some (some (.ref a)) := at0
    by_cases hj : j = i
    · subst hj
      rw [at0] at h7
      cases h7
      exact one (fun z => hjl z.symm) h2 h4 h6 h8 rfl
    · by_cases hl : l = i
      · subst hl
        rw [at0] at h8
        cases h8
        exact one hj h1 h3 h5 h7 rfl
      · exact r'.apart j l a' d' e (ow_off_of hj h1) (ow_off_of hl h2) hjl (mem hj h3) (mem hl h4) h5 h6 h7 h8
  ro := fun p hp => by
    have q := r'.ro p (List.mem_cons_of_mem _ hp)
    obtain ⟨o, d, e1, h0, c⟩ := q.c
    refine ⟨q.sl, q.nb, q.nf, o, d, e1, ?_, c⟩
    have q0 := r.ro p hp
    obtain ⟨o0, d0, _, h00, _⟩ := q0.c
    have h0 : snap w ow ρ σ (some i) H p.2 = some o := h0
    have e2 := (snap_some h0).2
    rw [r.gr.keep _ _ q0.nb h00] at e2
    cases e2
    exact h00
  len := r'.len
end
def forGo (T : Tg) (body : Sx) : List D → Env → Bg → Option (Out × Bg)
  | [], ρ, B => some (.nx ρ, B)
  | d :: ds, ρ, B => (T d ρ).bind fun ρ1 => (body ρ1 B).bind fun p => match p.1 with
    | .nx ρ2 => forGo T body ds ρ2 p.2
    | .ct ρ2 => forGo T body ds ρ2 p.2
    | .bk ρ2 => some (.nx ρ2, p.2)
    | .rt d => some (.rt d, p.2)
def sFor (T : Tg) (it : Exs) (body : Sx) : Sx := fun ρ B => (it ρ B).bind fun p => forGo T body p.1 ρ p.2
section
variable {X : Cx} {ow : Mk} {ro sl : List Nat} {pos : Pos} {e tg : Expr} {ss : List Stmt} {fi : Exs} {T : Tg} {body : Sx}
/-- the loop's core, in a world that begins at the loop -/
theorem for_core {w : Wd} {owL : Mk} {J : It} {R1 : Hp} {ds : List D} {ρ : Env} {B : Bg} {H1 : Hp} {σ : Sl} {o : Out} {B' : Bg} {E : Ends} (hK : w.z.K = X.kx) (hR : w.R.map (·.1) = ro) (ok : IterOk w.z J w.F0 R1 ds) (hR1 : ∀ a u, R1 a = some u → a ≠ w.z.b ∧ w.H0 a = some u)
    (r : Rel w ow ρ B w.F0 H1 σ) (hf : forGo T body ds ρ B = some (o, B')) (k : EndsOk w ow owL E B' o) :
    ∃ W : Nat → Nat → Sl → Hp → Prop, (∃ m, W 0 m σ H1) ∧ ∀ i m σ H, W i m σ H →
      (J.stop i H ∧ E.nx σ H) ∨ (J.go i H ∧ ∃ N : Sl → Hp → Prop, (∀ σ' H', N σ' H' → ∃ m', m' < m ∧ W (i + 1) m' σ' H') ∧ ∀ x H', J.yld i H x H' → canG X.kx ow ro sl T x σ H' fun σ2 H2 => canS X.kx ow ow ow ro body { E with nx := N, ct := N, bk := E.nx } σ2 H2) := by
  have hS : ∀ {F H : Hp} {ρ : Env} {B : Bg} {σ : Sl}, Rel w ow ρ B F H σ → Same R1 H := fun r a u e => r.gr.keep a u (hR1 a u e).1 (hR1 a u e).2
  refine ⟨fun i m σ H => ∃ ρ B F, m = ds.length - i ∧ i ≤ ds.length ∧ Rel w ow ρ B F H σ ∧ forGo T body (ds.drop i) ρ B = some (o, B'), ⟨_, ρ, B, _, rfl, Nat.zero_le _, r, hf⟩, ?_⟩
  rintro i m σ H ⟨ρ, B, F, rfl, hi, r, hf⟩
  by_cases hlt : i < ds.length
  · refine .inr ⟨ok.go i F H r.gr.le r.sub (hS r) hlt, fun σ' H' => ∃ ρ B F, Rel w ow ρ B F H' σ' ∧ forGo T body (ds.drop (i + 1)) ρ B = some (o, B'), ?_, ?_⟩
    · rintro σ' H' ⟨ρ', B2, F', h2, h4⟩
      exact ⟨ds.length - (i + 1), by omega, ρ', B2, F', rfl, hlt, h2, h4⟩
    · intro x H' hy
      rw [List.drop_eq_getElem_cons hlt] at hf
      unfold forGo at hf
      rw [Option.bind_eq_some_iff] at hf
      obtain ⟨ρ1, e1, hf⟩ := hf
      rw [Option.bind_eq_some_iff] at hf
      obtain ⟨⟨o1, B1⟩, e2, hf⟩ := hf
      obtain ⟨F', g1, b1, hd⟩ := ok.yld i F H B r.gr.le r.sub (hS r) r.bag x H' hy _ (List.getElem?_eq_getElem hlt)
      refine ⟨w, ρ, B, F', _, ρ1, hK, hR, r.grow g1 b1, hd, e1, fun σ2 r2 o2 => ⟨w, ρ1, B, F', o1, B1, hK, hR, r2, e2, ?_⟩⟩
      cases o1 with
      | nx ρ2 => exact fun F2 H2 σ2 r3 => ⟨ρ2, B1, F2, r3, hf⟩
      | ct ρ2 => exact fun F2 H2 σ2 r3 => ⟨ρ2, B1, F2, r3, hf⟩
      | bk ρ2 =>
        cases hf
        exact fun F2 H2 σ2 r3 => k F2 H2 σ2 r3
      | rt d =>
        cases hf
        exact k
  · have e : i = ds.length := by omega
    subst e
    rw [List.drop_length] at hf
    unfold forGo at hf
    cases hf
    exact .inl ⟨ok.stop _ F H r.gr.le r.sub (hS r) (Nat.le_refl _), k F H σ r⟩
theorem forGo_nct {T : Tg} {body : Sx} : ∀ {ds : List D} {ρ : Env} {B : Bg} {o : Out} {B' : Bg}, forGo T body ds ρ B = some (o, B') → (∃ ρ', o = .nx ρ') ∨ ∃ d, o = .rt d
  | [], ρ, B, o, B', h => by
    unfold forGo at h
    cases h
    exact .inl ⟨_, rfl⟩
  | d :: ds, ρ, B, o, B', h => by
    unfold forGo at h
    rw [Option.bind_eq_some_iff] at h
    obtain ⟨ρ1, _, h⟩ := h
    rw [Option.bind_eq_some_iff] at h
    obtain ⟨⟨o1, B1⟩, _, h⟩ := h
    cases o1 with
    | nx ρ2 => exact forGo_nct h
    | ct ρ2 => exact forGo_nct h
    | bk ρ2 => cases h; exact .inl ⟨_, rfl⟩
    | rt d => cases h; exact .inr ⟨_, rfl⟩
theorem v_for {owL : Mk} (hp : PassesOwn (model X.prog X.w) X.A X.env X.xe) (hi : PVI ow ro [] X tg e fi) (hg : PVG ow ro sl X tg T) (hb : PVSs ow ow ow ro X ss body) (hc : X.calm = true := by rfl) (hs : ∀ x, foldedSetIterable e X.env x = pure x := by intro _; rfl) :
    PVS ow ow owL ro X (.For tg e ss [] pos) (sFor T fi body) :=
  PVS.of (ps_for hp hc hi hg hb hs) fun w ρ B F H σ o B' hK hR r hf E k => by
    unfold sFor at hf
    rw [Option.bind_eq_some_iff] at hf
    obtain ⟨⟨ds, B1⟩, e1, hf⟩ := hf
    refine ⟨w, ρ, B, F, ds, B1, hK, hR, r, e1, fun J F1 H1 R1 g1 b1 q1 ok => ?_⟩
    have r1 := r.grow g1 b1
    have hn : ∀ a u, R1 a = some u → False := fun a u h => by
      obtain ⟨_, _, _, i, hi, _⟩ := q1 a u h
      cases hi
    refine for_core (w := { z := w.z, R := w.R, F0 := F1, H0 := snap w ow ρ σ none H1 }) (owL := ow) hK hR ok (fun a u h => (hn a u h).elim) r1.enter hf ?_
    rcases forGo_nct hf with ⟨ρ', rfl⟩ | ⟨d, rfl⟩
    · exact fun F2 H2 σ2 r2 => k F2 H2 σ2 (r1.leave r2)
    · exact fun F2 H2 v g2 b2 q2 => k F2 H2 v (r1.back0 none g2) b2 q2
/-- a loop over what the slot i holds -/
theorem v_forO (i : Nat) {owL : Mk} (hp : PassesOwn (model X.prog X.w) X.A X.env X.xe) (hi : PVI ow ro [i] X tg e fi) (hset : ∀ ρ B ds B', fi ρ B = some (ds, B') → ∃ d, ρ[i]? = some (some d)) (hg : PVG (ow.set i false) (i :: ro) sl X tg T) (hb : PVSs (ow.set i false) (ow.set i false) (ow.set i false) (i :: ro) X ss body)
    (hw : ow.getD i false = true := by rfl) (hr : i ∉ ro := by decide) (hc : X.calm = true := by rfl) (hs : ∀ x, foldedSetIterable e X.env x = pure x := by intro _; rfl) :
    PVS ow ow owL ro X (.For tg e ss [] pos) (sFor T fi body) :=
  PVS.of (ps_for hp hc hi hg hb hs) fun w ρ B F H σ o B' hK hR r hf E k => by
    unfold sFor at hf
    rw [Option.bind_eq_some_iff] at hf
    obtain ⟨⟨ds, B1⟩, e1, hf⟩ := hf
    refine ⟨w, ρ, B, F, ds, B1, hK, hR, r, e1, fun J F1 H1 R1 g1 b1 q1 ok => ?_⟩
    have r1 := r.grow g1 b1
    obtain ⟨d, hd⟩ := hset _ _ _ _ e1
    have hri : i ∉ w.R.map (·.1) := hR ▸ hr
    obtain ⟨a, u, qa⟩ := r1.own i d hw hri hd
    have n : ¬ OwnAddr w ow ρ σ (some i) a := fun ⟨j, d', h1, h2, h3, h4, h5⟩ => r1.apart i j a d d' hw h1 (fun z => h5 (congrArg some z)) hri h2 hd h3 qa.sl h4
    refine for_core (w := { z := w.z, R := (i, a) :: w.R, F0 := F1, H0 := snap w ow ρ σ (some i) H1 }) (owL := ow.set i false) hK (congrArg (i :: ·) hR) ok (fun c v h => ?_) (r1.enterO hw hri hd qa) hf ?_
    · obtain ⟨h1, h2, h3, j, hj, h4, h5, h6, h7⟩ := q1 c v h
      have hj : j = i := by simpa using hj
      subst hj
      rw [qa.sl] at h7
      cases h7
      refine ⟨h1, ?_⟩
      show snap w ow ρ σ (some j) H1 a = some v
      rw [snap_not n]
      exact h3
    · rcases forGo_nct hf with ⟨ρ', rfl⟩ | ⟨d, rfl⟩
      · exact fun F2 H2 σ2 r2 => k F2 H2 σ2 (r1.leaveO hw hri hd qa r2)
      · exact fun F2 H2 v g2 b2 q2 => k F2 H2 v (r1.back0 (some i) g2) b2 q2
theorem set_it {i : Nat} : ∀ ρ B ds B', xIt (xV i) ρ B = some (ds, B') → ∃ d, ρ[i]? = some (some d) := fun ρ B ds B' h => by
  unfold xIt at h
  rw [Option.bind_eq_some_iff] at h
  obtain ⟨⟨d, B1⟩, e1, _⟩ := h
  exact ⟨d, (xV_some e1).1⟩
def whileGo (c : Ex) (body : Sx) : Nat → Env → Bg → Option (Out × Bg)
  | 0, _, _ => none
  | n + 1, ρ, B => (c ρ B).bind fun p => match p.1 with
    | .bl true => (body ρ p.2).bind fun q => match q.1 with
      | .nx ρ2 => whileGo c body n ρ2 q.2
      | .ct ρ2 => whileGo c body n ρ2 q.2
      | .bk ρ2 => some (.nx ρ2, q.2)
      | .rt d => some (.rt d, q.2)
    | .bl false => some (.nx ρ, p.2)
    | _ => none
theorem v_while {owL : Mk} (n : Nat) {c : Expr} {fc : Ex} (hp : PassesOwn (model X.prog X.w) X.A X.env X.xe) (hc : PVT ow ro X c fc) (hb : PVSs ow ow ow ro X ss body) : PVS ow ow owL ro X (.While c ss [] pos) (whileGo fc body n) :=
  PVS.of (ps_while hp hc hb) fun w ρ B F H σ o B' hK hR r hf E k => by
    refine ⟨fun m σ H => ∃ ρ B F, Rel w ow ρ B F H σ ∧ whileGo fc body m ρ B = some (o, B'), ⟨n, ρ, B, F, r, hf⟩, ?_⟩
    rintro m σ H ⟨ρ, B, F, r, hf⟩
    cases m with
    | zero => cases hf
    | succ m =>
      unfold whileGo at hf
      rw [Option.bind_eq_some_iff] at hf
      obtain ⟨⟨x, B1⟩, e1, hf⟩ := hf
      cases x with
      | bl j =>
        refine ⟨w, ρ, B, F, j, B1, hK, hR, r, e1, fun F1 H1 g1 b1 => ?_⟩
        cases j with
        | false =>
          cases hf
          exact iteF (k F1 H1 σ (r.grow g1 b1))
        | true =>
          have hf : ((body ρ B1).bind fun q => match q.1 with
            | .nx ρ2 => whileGo fc body m ρ2 q.2
            | .ct ρ2 => whileGo fc body m ρ2 q.2
            | .bk ρ2 => some (.nx ρ2, q.2)
            | .rt d => some (.rt d, q.2)) = some (o, B') := hf
          rw [Option.bind_eq_some_iff] at hf
          obtain ⟨⟨o2, B2⟩, e2, hf⟩ := hf
          refine iteT ⟨fun σ' H' => ∃ ρ B F, Rel w ow ρ B F H' σ' ∧ whileGo fc body m ρ B = some (o, B'), ?_, w, ρ, B1, F1, o2, B2, hK, hR, r.grow g1 b1, e2, ?_⟩
          · rintro σ' H' ⟨ρ2, B3, F2, r2, h2⟩
            exact ⟨m, Nat.lt_succ_self m, ρ2, B3, F2, r2, h2⟩
          · cases o2 with
            | nx ρ2 => exact fun F2 H2 σ2 r3 => ⟨ρ2, B2, F2, r3, hf⟩
            | ct ρ2 => exact fun F2 H2 σ2 r3 => ⟨ρ2, B2, F2, r3, hf⟩
            | bk ρ2 =>
              cases hf
              exact fun F2 H2 σ2 r3 => k F2 H2 σ2 r3
            | rt d =>
              cases hf
              exact k
      | _ => cases hf
end
end DL
namespace DL
open PySem PySem.Spec PyProof.Rows L2
def wipeE (ρ : Env) : List Nat → Env
  | [] => ρ
  | i :: is => (wipeE ρ is).set i none
theorem none_some {α : Type} {l : List (Option α)} {i j : Nat} {y : α} (h : (l.set i none)[j]? = some (some y)) : j ≠ i ∧ l[j]? = some (some y) := by
  by_cases e : i = j
  · subst e
    by_cases hl : i < l.length
    · rw [List.getElem?_set_self hl] at h
      cases h
    · rw [List.getElem?_eq_none (by rw [List.length_set]; omega)] at h
      cases h
  · rw [List.getElem?_set_ne e] at h
    exact ⟨fun z => e z.symm, h⟩
section
variable {w : Wd} {ow : Mk} {ρ : Env} {B : Bg} {F H : Hp} {σ : Sl}
theorem Rel.wipe1 (r : Rel w ow ρ B F H σ) {i : Nat} (hi : i ∉ w.R.map (·.1)) : Rel w ow (ρ.set i none) B F H (σ.set i none) where
  gr := r.gr
  bag := r.bag
  set := fun j d h1 h2 h3 => by
    obtain ⟨hj, h3⟩ := none_some h3
    obtain ⟨v, e1, e2⟩ := r.set j d h1 h2 h3
    exact ⟨v, by rw [List.getElem?_set_ne (fun z => hj z.symm)]; exact e1, e2⟩
  own := fun j d h1 h2 h3 => by
    obtain ⟨hj, h3⟩ := none_some h3
    obtain ⟨a, o, q⟩ := r.own j d h1 h2 h3
    exact ⟨a, o, by rw [List.getElem?_set_ne (fun z => hj z.symm)]; exact q.sl, q.nb, q.nf, q.at_, q.c, q.new⟩
  apart := fun j l a d e h1 h2 hjl h3 h4 h5 h6 => by
    obtain ⟨hj, h5⟩ := none_some h5
    obtain ⟨hl, h6⟩ := none_some h6
    rw [List.getElem?_set_ne (fun z => hj z.symm), List.getElem?_set_ne (fun z => hl z.symm)]
    exact r.apart j l a d e h1 h2 hjl h3 h4 h5 h6
  ro := fun p hp => by
    have q := r.ro p hp
    obtain ⟨o, e, e1, h0, c⟩ := q.c
    have ne : i ≠ p.1 := fun z => hi (z ▸ List.mem_map_of_mem hp)
    exact ⟨by rw [List.getElem?_set_ne ne]; exact q.sl, q.nb, q.nf, o, e, by rw [List.getElem?_set_ne ne]; exact e1, h0, c⟩
  len := by rw [List.length_set, List.length_set]; exact r.len
theorem Rel.wipe (r : Rel w ow ρ B F H σ) : ∀ {is : List Nat}, (∀ i ∈ is, i ∉ w.R.map (·.1)) → Rel w ow (wipeE ρ is) B F H (L2.wipe σ is)
  | [], _ => r
  | i :: is, h => (Rel.wipe r fun j hj => h j (List.mem_cons_of_mem _ hj)).wipe1 (h i (List.mem_cons_self ..))
theorem wipe_in {σ : Sl} {i : Nat} : ∀ {vs : List Nat}, i ∈ vs → (L2.wipe σ vs)[i]? = if i < σ.length then some none else none
  | v :: vs, h => by
    unfold L2.wipe
    by_cases e : v = i
    · subst e
      by_cases hl : v < σ.length
      · rw [if_pos hl, List.getElem?_set_self (by rw [wipe_length]; exact hl)]
      · rw [if_neg hl, List.getElem?_eq_none (by rw [List.length_set, wipe_length]; omega)]
    · rw [List.getElem?_set_ne e]
      rcases List.mem_cons.mp h with z | z
      · exact absurd z.symm e
      · exact wipe_in z
theorem off_wipe {sl vs : List Nat} {σ σ' : Sl} (o : Off sl (L2.wipe σ vs) σ') (h : ∀ i ∈ sl, i ∈ vs) : L2.wipe σ' vs = L2.wipe σ vs := by
  apply List.ext_getElem?
  intro i
  by_cases hi : i ∈ vs
  · rw [wipe_in hi, wipe_in hi, o.len, wipe_length]
  · rw [wipe_out hi, o.at_ i (fun z => hi (h i z))]
end
def xYes : Ex := fun _ B => some (.bl true, B)
def lcGo (T : Tg) (c e : Ex) : List D → Env → Bg → Option (List D × Bg)
  | [], _, B => some ([], B)
  | d :: ds, ρ, B => (T d ρ).bind fun ρ1 => (c ρ1 B).bind fun p => match p.1 with
    | .bl true => (e ρ1 p.2).bind fun q => (lcGo T c e ds ρ q.2).map fun r => (q.1 :: r.1, r.2)
    | .bl false => lcGo T c e ds ρ p.2
    | _ => none
def xLC (vs : List Nat) (T : Tg) (it : Exs) (c e : Ex) : Ex := fun ρ B => (it ρ B).bind fun p => (lcGo T c e p.1 (wipeE ρ vs) p.2).bind fun q => if q.1.length ≤ sizeLine then some (.lst q.1, q.2) else none
def PVTs (ow : Mk) (ro : List Nat) (X : Cx) (es : List Expr) (f : Ex) : Prop := PTs X es (canT X.kx ow ro f)
theorem pts_weak {X : Cx} {e : List Expr} {t u : TT} (h : PTs X e t) (i : ∀ σ H Q, u σ H Q → t σ H Q) : PTs X e u := ⟨fun pins s σ H Q I q => h.run pins s σ H Q I (i σ H Q q)⟩
section
variable {X : Cx} {ow : Mk} {ro sl us : List Nat} {pos : Pos} {tg iter elt : Expr} {fi : Exs} {T : Tg} {fc fe f : Ex} {c : Expr} {ifs : List Expr} {scope : Scope} {own : List (Str × Nat)} {vs : List Nat}
theorem vts_nil : PVTs ow ro X [] xYes := pts_weak pts_nil fun σ H Q ⟨w, ρ, B, F, j, B', hK, hR, r, hf, k⟩ => by
  cases hf
  exact k F H (Grow.refl r.sub) r.bag
theorem vts_one (h : PVT ow ro X c f) : PVTs ow ro X [c] f := pts_one h
/-- a new object changed, nothing else -/
theorem Grow.poke {z : Bs} {F1 H1 F H : Hp} (g : Grow z F1 H1 F H) {a : Addr} {o : HO} (n : H1 a = none) (nf : F a = none) : Grow z F1 H1 F (upd H a o) where
  le := g.le
  sub := fun c u e => by
    rw [upd_ne (fun q => by
      rw [q, nf] at e
      cases e)]
    exact g.sub c u e
  keep := fun c u hc e => by
    rw [upd_ne (ne_of_none e n)]
    exact g.keep c u hc e
  nf := g.nf
theorem BagAt.poke {z : Bs} {F H : Hp} {B : Bg} (x : BagAt z F H B) {a : Addr} {o : HO} (nb : a ≠ z.b) : BagAt z F (upd H a o) B := by
  obtain ⟨h1, h2, h3⟩ := x
  exact ⟨h1, by rw [upd_ne nb.symm]; exact h2, h3⟩
theorem lc_can {w : Wd} {ρ : Env} {B : Bg} {F H : Hp} {σ : Sl} {d : D} {B' : Bg} {Q : VK} (hsl : ∀ i ∈ sl, i ∈ vs) (hro : ∀ i ∈ vs, i ∉ ro) (hK : w.z.K = X.kx) (hR : w.R.map (·.1) = ro) (r : Rel w ow ρ B F H σ) (hf : xLC vs T fi fc fe ρ B = some (d, B'))
    (k : ∀ v F' H', Grow w.z F H F' H' → BagAt w.z F' H' B' → Res .fr w.z H F' H' v d → Q v H') : tLc (canI X.kx ow ro us fi) (canG X.kx ow ro sl T) (canT X.kx ow ro fc) (canE X.kx .st ow ro fe) vs σ H Q := by
  unfold xLC at hf
  rw [Option.bind_eq_some_iff] at hf
  obtain ⟨⟨ds, B1⟩, e1, hf⟩ := hf
  rw [Option.bind_eq_some_iff] at hf
  obtain ⟨⟨all, B2⟩, e2, hf⟩ := hf
  have hf : (if all.length ≤ sizeLine then some (D.lst all, B2) else none) = some (d, B') := hf
  by_cases hz : all.length ≤ sizeLine
  · rw [if_pos hz] at hf
    cases hf
    refine ⟨w, ρ, B, F, ds, B1, hK, hR, r, e1, fun J F1 H1 R1 g1 b1 q1 ok dd hD => ?_⟩
    have nb : dd ≠ w.z.b := b1.new hD
    have r1 := (r.grow g1 b1).wipe (is := vs) (fun i hi => by rw [hR]; exact hro i hi)
    have hS : ∀ {F2 H2 : Hp}, Grow w.z F1 H1 F2 H2 → Same R1 H2 := fun g a u e => g.keep a u (q1 a u e).1 (q1 a u e).2.2.1
    refine ⟨fun i m H => ∃ B F acc as rest, m = ds.length - i ∧ i ≤ ds.length ∧ Grow w.z F1 H1 F H ∧ BagAt w.z F H B ∧ H dd = some (.lst acc) ∧ F dd = none ∧ Dens w.z F acc as ∧ lcGo T fc fe (ds.drop i) (wipeE ρ vs) B = some (rest, B') ∧ as ++ rest = all, ⟨_, B1, F1, [], [], all, rfl, Nat.zero_le _, ?_, ?_, upd_same, free_of g1.sub hD, .nil, e2, rfl⟩, ?_⟩
    · exact (Grow.refl g1.sub).poke hD (free_of g1.sub hD)
    · exact b1.poke nb
    rintro i m H ⟨B, F, acc, as, rest, rfl, hi, g, bg, hdd, nf, hacc, hf, hall⟩
    have rr := r1.grow g bg
    by_cases hlt : i < ds.length
    · refine .inr ⟨ok.go i F H g.le g.sub (hS g) hlt, fun H' => ∃ B F acc as rest, Grow w.z F1 H1 F H' ∧ BagAt w.z F H' B ∧ H' dd = some (.lst acc) ∧ F dd = none ∧ Dens w.z F acc as ∧ lcGo T fc fe (ds.drop (i + 1)) (wipeE ρ vs) B = some (rest, B') ∧ as ++ rest = all, ?_, fun x H' hy => ?_⟩
      · rintro H' ⟨B, F, acc, as, rest, h1, h2, h3, h4, h5, h6, h7⟩
        exact ⟨_, (by omega : ds.length - (i + 1) < ds.length - i), B, F, acc, as, rest, rfl, hlt, h1, h2, h3, h4, h5, h6, h7⟩
      · rw [List.drop_eq_getElem_cons hlt] at hf
        unfold lcGo at hf
        rw [Option.bind_eq_some_iff] at hf
        obtain ⟨ρ1, e3, hf⟩ := hf
        rw [Option.bind_eq_some_iff] at hf
        obtain ⟨⟨t, B3⟩, e4, hf⟩ := hf
        obtain ⟨F2, g2, b2, hd⟩ := ok.yld i F H B g.le g.sub (hS g) bg x H' hy _ (List.getElem?_eq_getElem hlt)
        have stood : ∀ {Fa Ha Fb Hb : Hp} {o : HO}, Grow w.z Fa Ha Fb Hb → Ha dd = some o → Fa dd = none → Hb dd = some o ∧ Fb dd = none := fun g h n => ⟨g.keep _ _ nb h, g.nf _ nb n (by rw [h]; exact fun q => nomatch q)⟩
        obtain ⟨hdd2, nf2⟩ := stood g2 hdd nf
        refine ⟨w, wipeE ρ vs, B, F2, _, ρ1, hK, hR, rr.grow g2 b2, hd, e3, fun σ2 r2 o2 => ⟨off_wipe o2 hsl, ?_⟩⟩
        cases t with
        | bl j =>
          refine ⟨w, ρ1, B, F2, j, B3, hK, hR, r2, e4, fun F3 H3 g3 b3 => ?_⟩
          obtain ⟨hdd3, nf3⟩ := stood g3 hdd2 nf2
          cases j with
          | false => exact iteF ⟨B3, F3, acc, as, rest, (g.trans g2).trans g3, b3, hdd3, nf3, (hacc.mono g2.le).mono g3.le, hf, hall⟩
          | true =>
            have hf : ((fe ρ1 B3).bind fun q => (lcGo T fc fe (ds.drop (i + 1)) (wipeE ρ vs) q.2).map fun r => (q.1 :: r.1, r.2)) = some (rest, B') := hf
            rw [Option.bind_eq_some_iff] at hf
            obtain ⟨⟨y, B4⟩, e5, hf⟩ := hf
            rw [Option.map_eq_some_iff] at hf
            obtain ⟨⟨rest', B5⟩, e6, hf⟩ := hf
            cases hf
            refine iteT ⟨w, ρ1, B3, F3, y, B4, hK, hR, r2.grow g3 b3, e5, fun v F4 H4 g4 b4 q4 => ?_⟩
            obtain ⟨hdd4, nf4⟩ := stood g4 hdd3 nf3
            have hl : acc.length < sizeLine := by
              rw [hacc.length]
              have := congrArg List.length hall
              rw [List.length_append, List.length_cons] at this
              omega
            refine ⟨acc, hdd4, hl, B4, F4, acc ++ [v], as ++ [y], rest', (((g.trans g2).trans g3).trans g4).poke hD nf4, b4.poke nb, upd_same, nf4, (((hacc.mono g2.le).mono g3.le).mono g4.le).append (.one q4), e6, ?_⟩
            rw [List.append_assoc]
            exact hall
        | _ => cases hf
    · have e : i = ds.length := by omega
      subst e
      rw [List.drop_length] at hf
      unfold lcGo at hf
      cases hf
      rw [List.append_nil] at hall
      subst hall
      exact .inl ⟨ok.stop _ F H g.le g.sub (hS g) (Nat.le_refl _), k _ F H (g1.trans g) bg (Res.back (m := .fr) g1 ⟨dd, _, rfl, nb, hD, nf, hdd, .lst hacc⟩)⟩
  · rw [if_neg hz] at hf
    cases hf
theorem pv_lc (nd : X.N.Nodup) (hi : PVI ow ro us X tg iter fi) (ok : BlkOk X.N X.env.scope scope own)
    (hg : ∀ (s : Shared) (H : Hp) (C : Addr) (cl : List (Str × Addr)) (fp : List Addr), PVG ow ro sl (X.blk s H scope (compEnvC scope cl C X.env) fp) tg T) (ht : ∀ (s : Shared) (H : Hp) (C : Addr) (cl : List (Str × Addr)) (fp : List Addr), PVTs ow ro (X.blk s H scope (compEnvC scope cl C X.env) fp) ifs fc)
    (he : ∀ (s : Shared) (H : Hp) (C : Addr) (cl : List (Str × Addr)) (fp : List Addr), PV .st ow ro (X.blk s H scope (compEnvC scope cl C X.env) fp) elt fe) (hsl : ∀ i ∈ sl, i ∈ own.map (·.2) := by decide) (hro : ∀ i ∈ own.map (·.2), i ∉ ro := by decide) (hc : X.calm = true := by rfl)
    (hs : ∀ x, foldedSetIterable iter X.env x = pure x := by intro _; rfl) : PV .fr ow ro X (.ListComp elt [⟨tg, iter, ifs, 0⟩] scope pos) (xLC (own.map (·.2)) T fi fc fe) :=
  PV.of (pe_lc (g := canG X.kx ow ro sl T) (tt := canT X.kx ow ro fc) (te := canE X.kx .st ow ro fe) hc nd hi ok hg ht he hs) fun w ρ B F H σ d B' hK hR r hf Q k => lc_can (X := X) hsl hro hK hR r hf k
/-- y = [..], y a local -/
theorem v_setLc (i : Nat) {owL : Mk} {y : Str} {py spos : Pos} (nd : X.N.Nodup) (hi : PVI ow ro us X tg iter fi) (ok : BlkOk X.N X.env.scope scope own)
    (hg : ∀ (s : Shared) (H : Hp) (C : Addr) (cl : List (Str × Addr)) (fp : List Addr), PVG ow ro sl (X.blk s H scope (compEnvC scope cl C X.env) fp) tg T) (ht : ∀ (s : Shared) (H : Hp) (C : Addr) (cl : List (Str × Addr)) (fp : List Addr), PVTs ow ro (X.blk s H scope (compEnvC scope cl C X.env) fp) ifs fc)
    (he : ∀ (s : Shared) (H : Hp) (C : Addr) (cl : List (Str × Addr)) (fp : List Addr), PV .st ow ro (X.blk s H scope (compEnvC scope cl C X.env) fp) elt fe) (hsl : ∀ i ∈ sl, i ∈ own.map (·.2) := by decide) (hro : ∀ i ∈ own.map (·.2), i ∉ ro := by decide) (hio : i < ow.length := by decide) (hr : i ∉ ro := by decide) (hc : X.calm = true := by rfl)
    (hy : X.N[i]? = some y := by rfl) (hyl : X.env.scope.names.lookup y = some .local := by rfl) (hsw : swapsWith (.ListComp elt [⟨tg, iter, ifs, 0⟩] scope pos) (some (.Name y py)) spos.line X.env = pure true := by exact sw_true rfl rfl rfl (by decide +kernel))
    (hs : ∀ x, foldedSetIterable iter X.env x = pure x := by intro _; rfl) : PVS ow (ow.set i true) owL ro X (.Assign [.Name y py] (.ListComp elt [⟨tg, iter, ifs, 0⟩] scope pos) spos) (sSet i (xLC (own.map (·.2)) T fi fc fe)) :=
  PVS.of (ps_setLc (g := canG X.kx ow ro sl T) (tt := canT X.kx ow ro fc) (te := canE X.kx .st ow ro fe) hc nd hy hyl hsw hi ok hg ht he hs) fun w ρ B F H σ o B' hK hR r hg E k => by
    obtain ⟨d, e1, rfl⟩ := sSet_some hg
    exact lc_can (X := X) hsl hro hK hR r e1 fun v F' H' g1 b1 q1 => k F' H' _ (r.fresh g1 b1 q1 hio (hR ▸ hr))
section
variable {κ : Type} [DecidableEq κ]
def valD (kvs : List (κ × D)) (k : κ) : Option D := (kvs.find? fun kv => decide (kv.1 = k)).map (·.2)
def putD (kvs : List (κ × D)) (k : κ) (v : D) : List (κ × D) :=
  if (kvs.any fun p => decide (p.1 = k)) = true then kvs.map (fun p => if p.1 = k then (p.1, v) else p) else kvs ++ [(k, v)]
end
def keyOf : D → Option Key
  | .int i => some (.inl i)
  | .str x => some (.inr x)
  | _ => none
theorem key_den {z : Bs} {F H : Hp} {v : V} {d : D} {k : Key} (h : Bor z F H v d) (e : keyOf d = some k) : v = kV k := by
  cases d with
  | int i =>
    cases e
    exact Bor.int h
  | str x =>
    cases e
    exact Bor.str h
  | _ => cases e
section
variable {z : Bs} {F : Hp}
theorem DenK.any : ∀ {vs : List (Key × V)} {ds : List (Key × D)} (k : Key), DenK z F vs ds → (vs.any fun kv => decide (kv.1 = k)) = (ds.any fun kv => decide (kv.1 = k))
  | _, _, k, .nil => rfl
  | _, _, k, .cons a r => by
    rw [List.any_cons, List.any_cons, DenK.any k r]
theorem DenK.length : ∀ {vs : List (Key × V)} {ds : List (Key × D)}, DenK z F vs ds → vs.length = ds.length
  | _, _, .nil => rfl
  | _, _, .cons a r => congrArg (· + 1) (DenK.length r)
theorem DenK.append : ∀ {vs us : List (Key × V)} {ds es : List (Key × D)}, DenK z F vs ds → DenK z F us es → DenK z F (vs ++ us) (ds ++ es)
  | _, _, _, _, .nil, q => q
  | _, _, _, _, .cons a r, q => .cons a (DenK.append r q)
theorem DenK.swap {v : V} {d : D} {k : Key} (h : Den z F v d) : ∀ {vs : List (Key × V)} {ds : List (Key × D)}, DenK z F vs ds → DenK z F (vs.map fun kv => if kv.1 = k then (kv.1, v) else kv) (ds.map fun kv => if kv.1 = k then (kv.1, d) else kv)
  | _, _, .nil => .nil
  | _, _, .cons (k := k') a r => by
    rw [List.map_cons, List.map_cons]
    by_cases e : k' = k
    · rw [if_pos e, if_pos e]
      exact .cons h (DenK.swap h r)
    · rw [if_neg e, if_neg e]
      exact .cons a (DenK.swap h r)
theorem DenK.put {vs : List (Key × V)} {ds : List (Key × D)} {v : V} {d : D} {k : Key} (q : DenK z F vs ds) (h : Den z F v d) : DenK z F (putK vs k v) (putD ds k d) := by
  unfold putK putD
  rw [q.any k]
  by_cases e : (ds.any fun kv => decide (kv.1 = k)) = true
  · rw [if_pos e, if_pos e]
    exact DenK.swap h q
  · rw [if_neg e, if_neg e]
    exact q.append (.cons h .nil)
theorem DenK.val : ∀ {vs : List (Key × V)} {ds : List (Key × D)} {k : Key} {d : D}, DenK z F vs ds → valD ds k = some d → ∃ v, valV vs k = some v ∧ Den z F v d
  | _, _, k, d, .nil, e => by cases e
  | _, _, k, d, .cons (k := k') a r, e => by
    unfold valD at e
    unfold valV
    rw [List.find?_cons] at e ⊢
    by_cases h : k' = k
    · have h' : decide (k' = k) = true := decide_eq_true h
      simp only [h'] at e ⊢
      cases e
      exact ⟨_, rfl, a⟩
    · have h' : decide (k' = k) = false := decide_eq_false h
      simp only [h'] at e ⊢
      exact DenK.val r e
theorem DenK.valNone : ∀ {vs : List (Key × V)} {ds : List (Key × D)} {k : Key}, DenK z F vs ds → valD ds k = none → valV vs k = none
  | _, _, k, .nil, e => rfl
  | _, _, k, .cons (k := k') a r, e => by
    unfold valD at e
    unfold valV
    rw [List.find?_cons] at e ⊢
    by_cases h : k' = k
    · have h' : decide (k' = k) = true := decide_eq_true h
      simp only [h'] at e
      cases e
    · have h' : decide (k' = k) = false := decide_eq_false h
      simp only [h'] at e ⊢
      exact DenK.valNone r e
end
end
end DL
namespace DL
open PySem PySem.Spec PyProof.Rows L2
def gInt2 (f : Int → Int → Int) : D → D → Option D := fun x y => match x, y with
  | .int i, .int j => some (.int (f i j))
  | _, _ => none
def gAdd : D → D → Option D := fun x y => match x, y with
  | .int i, .int j => some (.int (i + j))
  | .str a, .str b => if a.length + b.length ≤ sizeLine then some (.str (a ++ b)) else none
  | .tup a, .tup b => if a.length + b.length ≤ sizeLine then some (.tup (a ++ b)) else none
  | .lst a, .lst b => if a.length + b.length ≤ sizeLine then some (.lst (a ++ b)) else none
  | _, _ => none
def gCat : D → D → Option D := fun x y => match x, y with
  | .lst a, .lst b => if a.length + b.length ≤ sizeLine then some (.lst (a ++ b)) else none
  | _, _ => none
theorem cat_lst : ∀ x y d, gCat x y = some d → isLst d := fun x y d e => by
  unfold gCat at e
  split at e
  · split at e
    · cases e
      trivial
    · cases e
  · cases e
section
variable {X : Cx}
def rAdd (K : PySem.W.Frag) : R2 := fun x y H Q => (rI0 (fun i j => .int (i + j))) x y H Q ∨ (∃ i j, x = .str i ∧ y = .str j ∧ i.length + j.length ≤ sizeLine ∧ Q (.str (i ++ j)) H) ∨ rCatA K x y H Q ∨ rCat x y H Q
theorem op_addD : OpR X (binaryOp .Add) (rAdd X.kx) := OpR.or op_add (OpR.or op_add_str (OpR.or op_catA op_cat))
theorem ok_cat (K : Kx) : OpOk K .fr rCat gCat := fun z F H B x y dx dy d hK s bg h1 h2 e Q k => by
  cases dx with
  | lst a =>
    cases dy with
    | lst b =>
      have e : (if a.length + b.length ≤ sizeLine then some (D.lst (a ++ b)) else none) = some d := e
      by_cases hl : a.length + b.length ≤ sizeLine
      · rw [if_pos hl] at e
        cases e
        obtain ⟨l, vs, rfl, ha, da⟩ := Bor.lst s h1
        obtain ⟨m, us, rfl, hb, db⟩ := Bor.lst s h2
        refine ⟨l, m, vs, us, rfl, rfl, ha, hb, by rw [da.length, db.length]; exact hl, fun p hp => ?_⟩
        exact k _ F _ (Grow.laid s hp) (bg.laid hp) ⟨p, _, rfl, bg.new hp, hp, free_of s hp, upd_same, .lst (da.append db)⟩
      · rw [if_neg hl] at e
        cases e
    | _ => cases e
  | _ => cases e
theorem ok_add : OpOk X.kx .st (rAdd X.kx) gAdd := fun z F H B x y dx dy d hK s bg h1 h2 e Q k => by
  cases dx with
  | int i =>
    cases dy with
    | int j =>
      cases e
      exact .inl ⟨i, j, Bor.int h1, Bor.int h2, k _ F H (Grow.refl s) bg (.int _)⟩
    | _ => cases e
  | str a =>
    cases dy with
    | str b =>
      have e : (if a.length + b.length ≤ sizeLine then some (D.str (a ++ b)) else none) = some d := e
      by_cases hl : a.length + b.length ≤ sizeLine
      · rw [if_pos hl] at e
        cases e
        exact .inr (.inl ⟨a, b, Bor.str h1, Bor.str h2, hl, k _ F H (Grow.refl s) bg (.str _)⟩)
      · rw [if_neg hl] at e
        cases e
    | _ => cases e
  | tup a =>
    cases dy with
    | tup b =>
      have e : (if a.length + b.length ≤ sizeLine then some (D.tup (a ++ b)) else none) = some d := e
      by_cases hl : a.length + b.length ≤ sizeLine
      · rw [if_pos hl] at e
        cases e
        obtain ⟨l, vs, rfl, ha, da⟩ := Bor.tup h1
        obtain ⟨m, us, rfl, hb, db⟩ := Bor.tup h2
        have ha' : SqT X.kx F l vs := hK ▸ ha
        have hb' : SqT X.kx F m us := hK ▸ hb
        refine .inr (.inr (.inl ⟨l, m, vs, us, rfl, rfl, sqt_same s ha', sqt_same s hb', by rw [da.length, db.length]; exact hl, fun z1 => ?_, fun _ z2 => ?_, fun _ _ p hp => ?_⟩))
        · subst z1
          cases da
          exact k _ F H (Grow.refl s) bg (.tup hb db)
        · subst z2
          cases db
          rw [List.append_nil] at k
          exact k _ F H (Grow.refl s) bg (.tup ha da)
        · exact k _ _ _ (Grow.laidS s hp) (bg.laidS s hp) (.tup (SqT.of upd_same) ((da.append db).mono (same_upd_free (free_of s hp))))
      · rw [if_neg hl] at e
        cases e
    | _ => cases e
  | lst a =>
    cases dy with
    | lst b =>
      have e' : gCat (.lst a) (.lst b) = some d := e
      exact .inr (.inr (.inr (OpOk.settle cat_lst (ok_cat X.kx) z F H B x y _ _ d hK s bg h1 h2 e' Q k)))
    | _ => cases e
  | _ => cases e
def gSub : D → D → Option D := gInt2 (· - ·)
theorem ok_sub (K : Kx) : OpOk K .st (rI0 fun i j => .int (i - j)) gSub := fun z F H B x y dx dy d hK s bg h1 h2 e Q k => by
  cases dx with
  | int i =>
    cases dy with
    | int j =>
      cases e
      exact ⟨i, j, Bor.int h1, Bor.int h2, k _ F H (Grow.refl s) bg (.int _)⟩
    | _ => cases e
  | _ => cases e
/-- products: one factor small, or both of bounded size -/
def mulOk (i j : Int) : Bool := decide (-(2 ^ 64) < i ∧ i < 2 ^ 64) || decide (-(2 ^ 64) < j ∧ j < 2 ^ 64) || decide (i.natAbs.log2 + j.natAbs.log2 < 1000000)
/-- a text, told so often -/
def mulStr (x : Str) (n : Int) : Str := Txt.mul x n
def gMul : D → D → Option D := fun x y => match x, y with
  | .int i, .int j => if mulOk i j then some (.int (i * j)) else none
  | .str a, .int n => if n < 2 ^ 62 ∧ -(2 ^ 62) ≤ n ∧ a.length * n.toNat ≤ sizeLine then some (.str (mulStr a n)) else none
  | .lst a, .int n => if n < 2 ^ 62 ∧ -(2 ^ 62) ≤ n ∧ a.length * n.toNat ≤ sizeLine then some (.lst (List.replicate n.toNat a).flatten) else none
  | _, _ => none
def gRep : D → D → Option D := fun x y => match x, y with
  | .lst a, .int n => if n < 2 ^ 62 ∧ -(2 ^ 62) ≤ n ∧ a.length * n.toNat ≤ sizeLine then some (.lst (List.replicate n.toNat a).flatten) else none
  | _, _ => none
theorem rep_lst : ∀ x y d, gRep x y = some d → isLst d := fun x y d e => by
  unfold gRep at e
  split at e
  · split at e
    · cases e
      trivial
    · cases e
  · cases e
theorem mulOk_str {a : Str} {n : Int} (h : n < 2 ^ 62 ∧ -(2 ^ 62) ≤ n ∧ a.length * n.toNat ≤ sizeLine) : MulOk a n := by
  have hz := sizeLine_eq
  refine ⟨?_, fun h1 h2 => ?_, fun h1 h2 => ?_⟩
  · rw [Bool.or_eq_false_iff]
    exact ⟨decide_eq_false (by omega), decide_eq_false (by omega)⟩
  · have h3 : 0 < n := by omega
    have h4 : (a.length : Int) * n ≤ sizeLine := by
      have h5 : ((a.length * n.toNat : Nat) : Int) ≤ (sizeLine : Nat) := Int.ofNat_le.mpr h.2.2
      rw [Int.natCast_mul, Int.toNat_of_nonneg (by omega)] at h5
      exact h5
    have h6 : (a.length : Int) ≤ (2 ^ 63 - 1) / n := by
      rw [Int.le_ediv_iff_mul_le h3]
      omega
    omega
  · unfold Builtin.Str.tooLong
    simp
    omega
def rMulS : R2 := fun x y H Q => ∃ a n, x = .str a ∧ y = .int n ∧ MulOk a n ∧ Q (.str (mulStr a n)) H
theorem op_mulS : OpR X (binaryOp .Mult) rMulS := by
  intro pins s σ H x y v u Q I rx ry h
  obtain ⟨a, n, rfl, rfl, hm, q⟩ := h
  obtain ⟨t, rfl⟩ := rx
  obtain ⟨t', rfl⟩ := ry
  exact SB.mul hm fun t' k => ⟨.str _, H, I.tok _, ⟨_, rfl⟩, q⟩
def rMul : R2 := fun x y H Q => rI CMul (fun i j => .int (i * j)) x y H Q ∨ rI CMulW (fun i j => .int (i * j)) x y H Q ∨ rMulS x y H Q ∨ rRep x y H Q
theorem op_mulD : OpR X (binaryOp .Mult) rMul := OpR.or op_mul (OpR.or op_mulW (OpR.or op_mulS op_rep))
theorem ok_rep (K : Kx) : OpOk K .fr rRep gRep := fun z F H B x y dx dy d hK s bg h1 h2 e Q k => by
  cases dx with
  | lst a =>
    cases dy with
    | int n =>
      have e : (if n < 2 ^ 62 ∧ -(2 ^ 62) ≤ n ∧ a.length * n.toNat ≤ sizeLine then some (D.lst (List.replicate n.toNat a).flatten) else none) = some d := e
      by_cases hl : n < 2 ^ 62 ∧ -(2 ^ 62) ≤ n ∧ a.length * n.toNat ≤ sizeLine
      · rw [if_pos hl] at e
        cases e
        obtain ⟨l, vs, rfl, ha, da⟩ := Bor.lst s h1
        refine ⟨l, n, vs, rfl, Bor.int h2, ha, by omega, by omega, by rw [da.length]; exact hl.2.2, fun p hp => ?_⟩
        have dr : ∀ m : Nat, Dens z F (List.replicate m vs).flatten (List.replicate m a).flatten := by
          intro m
          induction m with
          | zero => exact .nil
          | succ m ih =>
            rw [List.replicate_succ, List.replicate_succ, List.flatten_cons, List.flatten_cons]
            exact da.append ih
        exact k _ F _ (Grow.laid s hp) (bg.laid hp) ⟨p, _, rfl, bg.new hp, hp, free_of s hp, upd_same, .lst (dr _)⟩
      · rw [if_neg hl] at e
        cases e
    | _ => cases e
  | _ => cases e
theorem ok_mul (K : Kx) : OpOk K .st rMul gMul := fun z F H B x y dx dy d hK s bg h1 h2 e Q k => by
  cases dx with
  | int i =>
    cases dy with
    | int j =>
      have e : (if mulOk i j = true then some (D.int (i * j)) else none) = some d := e
      by_cases hl : mulOk i j = true
      · rw [if_pos hl] at e
        cases e
        unfold mulOk at hl
        rw [Bool.or_eq_true, Bool.or_eq_true] at hl
        have kk := k _ F H (Grow.refl s) bg (Den.int (i * j))
        rcases hl with (hl | hl) | hl
        · exact .inl ⟨i, j, Bor.int h1, Bor.int h2, .inl (of_decide_eq_true hl), kk⟩
        · exact .inl ⟨i, j, Bor.int h1, Bor.int h2, .inr (of_decide_eq_true hl), kk⟩
        · exact .inr (.inl ⟨i, j, Bor.int h1, Bor.int h2, (of_decide_eq_true hl : i.natAbs.log2 + j.natAbs.log2 < 1000000), kk⟩)
      · rw [if_neg hl] at e
        cases e
    | _ => cases e
  | str a =>
    cases dy with
    | int n =>
      have e : (if n < 2 ^ 62 ∧ -(2 ^ 62) ≤ n ∧ a.length * n.toNat ≤ sizeLine then some (D.str (mulStr a n)) else none) = some d := e
      by_cases hl : n < 2 ^ 62 ∧ -(2 ^ 62) ≤ n ∧ a.length * n.toNat ≤ sizeLine
      · rw [if_pos hl] at e
        cases e
        exact .inr (.inr (.inl ⟨a, n, Bor.str h1, Bor.int h2, mulOk_str hl, k _ F H (Grow.refl s) bg (.str _)⟩))
      · rw [if_neg hl] at e
        cases e
    | _ => cases e
  | lst a =>
    cases dy with
    | int n =>
      have e' : gRep (.lst a) (.int n) = some d := e
      exact .inr (.inr (.inr (OpOk.settle rep_lst (ok_rep K) z F H B x y _ _ d hK s bg h1 h2 e' Q k)))
    | _ => cases e
  | _ => cases e
def gMod : D → D → Option D := fun x y => match x, y with
  | .int i, .int j => if 0 < j then some (.int (i % j)) else none
  | _, _ => none
theorem ok_mod (K : Kx) : OpOk K .st (rI (fun _ j => 0 < j) fun i j => .int (i % j)) gMod := fun z F H B x y dx dy d hK s bg h1 h2 e Q k => by
  cases dx with
  | int i =>
    cases dy with
    | int j =>
      have e : (if 0 < j then some (D.int (i % j)) else none) = some d := e
      by_cases hl : 0 < j
      · rw [if_pos hl] at e
        cases e
        exact ⟨i, j, Bor.int h1, Bor.int h2, hl, k _ F H (Grow.refl s) bg (.int _)⟩
      · rw [if_neg hl] at e
        cases e
    | _ => cases e
  | _ => cases e
def gDiv : D → D → Option D := fun x y => match x, y with
  | .int i, .int j => if 0 < j ∧ j < 1073741824 then some (.int (i / j)) else if 0 < j ∧ j.natAbs.log2 < 9000 then some (.int (i / j)) else none
  | _, _ => none
def CDivW (i j : Int) : Prop := 0 < j ∧ j.natAbs.log2 < 9000
def rDivB : R2 := fun x y H Q => rI CDiv (fun i j => .int (i / j)) x y H Q ∨ rI CDivW (fun i j => .int (i / j)) x y H Q
section
variable {X : Cx}
theorem op_fdivB : OpR X (binaryOp .FloorDiv) rDivB := OpR.or op_fdiv (opI fun i j _ _ _ _ _ hc q => by
  have h1 : (0 : Int) < j := hc.1
  exact floordiv_int (by omega) (by rw [Int.fdiv_eq_ediv_of_nonneg i (by omega)]; exact q) (.inl (PyProof.noPylong_of_log2 hc.2)))
end
theorem ok_div (K : Kx) : OpOk K .st rDivB gDiv := fun z F H B x y dx dy d hK s bg h1 h2 e Q k => by
  cases dx with
  | int i =>
    cases dy with
    | int j =>
      have e : (if 0 < j ∧ j < 1073741824 then some (D.int (i / j)) else if 0 < j ∧ j.natAbs.log2 < 9000 then some (D.int (i / j)) else none) = some d := e
      by_cases hl : 0 < j ∧ j < 1073741824
      · rw [if_pos hl] at e
        cases e
        exact .inl ⟨i, j, Bor.int h1, Bor.int h2, ⟨hl.1, hl.2⟩, k _ F H (Grow.refl s) bg (.int _)⟩
      · rw [if_neg hl] at e
        by_cases hw : 0 < j ∧ j.natAbs.log2 < 9000
        · rw [if_pos hw] at e
          cases e
          exact .inr ⟨i, j, Bor.int h1, Bor.int h2, ⟨hw.1, hw.2⟩, k _ F H (Grow.refl s) bg (.int _)⟩
        · rw [if_neg hw] at e
          cases e
    | _ => cases e
  | _ => cases e
def gNeg : D → Option D := fun x => match x with
  | .int i => some (.int (-i))
  | _ => none
theorem ok_neg (K : Kx) : UnOk K .st (rU fun i => .int (-i)) gNeg := fun z F H B x dx d hK s bg h1 e Q k => by
  cases dx with
  | int i =>
    cases e
    exact ⟨i, Bor.int h1, k _ F H (Grow.refl s) bg (.int _)⟩
  | _ => cases e
def eqB (x y : D) : Bool := PyData.eqv x.py y.py
def eqOk (x y : D) : Bool := x.plain && y.plain && SeqAt.shaped x.py && SeqAt.shaped y.py
/-- two texts, of any signs -/
def bothS : D → D → Bool
  | .str _, .str _ => true
  | _, _ => false
def gEq : D → D → Option D := fun x y => if eqOk x y then some (.bl (eqB x y)) else if bothS x y then some (.bl (eqB x y)) else none
def gNe : D → D → Option D := fun x y => if eqOk x y then some (.bl (!eqB x y)) else if bothS x y then some (.bl (!eqB x y)) else none
def rEqB (K : PySem.W.Frag) : R2 := fun x y H Q => rEq x y H Q ∨ rEqD K x y H Q
def rNeB (K : PySem.W.Frag) : R2 := fun x y H Q => rNe x y H Q ∨ rNeD K x y H Q
section
variable {X : Cx}
theorem op_eqB (hu : X.A.units + 64 < cLine) : OpR X (compareOp .Eq) (rEqB X.kx) := OpR.or op_eq (op_eqD hu)
theorem op_neB (hu : X.A.units + 64 < cLine) : OpR X (compareOp .NotEq) (rNeB X.kx) := OpR.or op_ne (op_neD hu)
end
theorem bothS_some {x y : D} (h : bothS x y = true) : ∃ i j, x = .str i ∧ y = .str j := by
  cases x with
  | str i =>
    cases y with
    | str j => exact ⟨i, j, rfl, rfl⟩
    | _ => cases h
  | _ => cases h
theorem eqOk_all {x y : D} (h : eqOk x y = true) : (x.plain = true ∧ y.plain = true) ∧ SeqAt.shaped x.py = true ∧ SeqAt.shaped y.py = true := by
  unfold eqOk at h
  rw [Bool.and_eq_true, Bool.and_eq_true, Bool.and_eq_true] at h
  exact ⟨h.1.1, h.1.2, h.2⟩
theorem ok_eq (K : Kx) : CmpOk K (rEqB K) gEq := fun z F H x y dx dy d hK s h1 h2 e => by
  unfold gEq at e
  by_cases hl : eqOk dx dy = true
  · rw [if_pos hl] at e
    cases e
    obtain ⟨⟨p1, p2⟩, s1, s2⟩ := eqOk_all hl
    refine ⟨_, rfl, fun Q q => .inr ⟨dx.py, dy.py, ?_, ?_, s1, s2, q⟩⟩
    · rw [← hK]
      exact Bor.dp s h1 p1
    · rw [← hK]
      exact Bor.dp s h2 p2
  · rw [if_neg hl] at e
    by_cases hb : bothS dx dy = true
    · rw [if_pos hb] at e
      cases e
      obtain ⟨i, j, rfl, rfl⟩ := bothS_some hb
      refine ⟨_, rfl, fun Q q => .inl ?_⟩
      rw [Bor.str h1, Bor.str h2]
      refine ⟨rfl, ?_⟩
      rw [dec_str]
      exact q
    · rw [if_neg hb] at e
      cases e
theorem ok_ne (K : Kx) : CmpOk K (rNeB K) gNe := fun z F H x y dx dy d hK s h1 h2 e => by
  unfold gNe at e
  by_cases hl : eqOk dx dy = true
  · rw [if_pos hl] at e
    cases e
    obtain ⟨⟨p1, p2⟩, s1, s2⟩ := eqOk_all hl
    refine ⟨_, rfl, fun Q q => .inr ⟨dx.py, dy.py, ?_, ?_, s1, s2, q⟩⟩
    · rw [← hK]
      exact Bor.dp s h1 p1
    · rw [← hK]
      exact Bor.dp s h2 p2
  · rw [if_neg hl] at e
    by_cases hb : bothS dx dy = true
    · rw [if_pos hb] at e
      cases e
      obtain ⟨i, j, rfl, rfl⟩ := bothS_some hb
      refine ⟨_, rfl, fun Q q => .inl ?_⟩
      rw [Bor.str h1, Bor.str h2]
      refine ⟨rfl, ?_⟩
      rw [dec_str]
      exact q
    · rw [if_neg hb] at e
      cases e
def gCmp (p : Int → Int → Bool) : D → D → Option D := fun x y => match x, y with
  | .int i, .int j => some (.bl (p i j))
  | _, _ => none
theorem ok_cmp (K : Kx) (p : Int → Int → Bool) : CmpOk K (rI0 fun i j => .bl (p i j)) (gCmp p) := fun z F H x y dx dy d hK s h1 h2 e => by
  cases dx with
  | int i =>
    cases dy with
    | int j =>
      cases e
      exact ⟨_, rfl, fun Q q => ⟨i, j, Bor.int h1, Bor.int h2, q⟩⟩
    | _ => cases e
  | _ => cases e
def gLt : D → D → Option D := gCmp fun i j => decide (i < j)
def gLe : D → D → Option D := gCmp fun i j => decide (i ≤ j)
def gGt : D → D → Option D := gCmp fun i j => decide (j < i)
def gGe : D → D → Option D := gCmp fun i j => decide (j ≤ i)
theorem ok_lt (K : Kx) : CmpOk K (rI0 fun i j => .bl (decide (i < j))) gLt := ok_cmp K _
theorem ok_le (K : Kx) : CmpOk K (rI0 fun i j => .bl (decide (i ≤ j))) gLe := ok_cmp K _
theorem ok_gt (K : Kx) : CmpOk K (rI0 fun i j => .bl (decide (j < i))) gGt := ok_cmp K _
theorem ok_ge (K : Kx) : CmpOk K (rI0 fun i j => .bl (decide (j ≤ i))) gGe := ok_cmp K _
/-- is None -/
def gIs : D → D → Option D := fun x y => match y with
  | .non => some (.bl (isNon x))
  | _ => none
def gIsNot : D → D → Option D := fun x y => match y with
  | .non => some (.bl (!isNon x))
  | _ => none
theorem ok_is (K : Kx) : CmpOk K (fun x y H Q => y = .non ∧ Q (.bl (decide (x = .non))) H) gIs := fun z F H x y dx dy d hK s h1 h2 e => by
  cases dy with
  | non =>
    cases e
    exact ⟨_, rfl, fun Q q => ⟨Bor.non h2, by rw [Bor.isN h1]; exact q⟩⟩
  | _ => cases e
theorem ok_isNot (K : Kx) : CmpOk K (fun x y H Q => y = .non ∧ Q (.bl (!decide (x = .non))) H) gIsNot := fun z F H x y dx dy d hK s h1 h2 e => by
  cases dy with
  | non =>
    cases e
    exact ⟨_, rfl, fun Q q => ⟨Bor.non h2, by rw [Bor.isN h1]; exact q⟩⟩
  | _ => cases e
/-- x in a list, in a dict -/
def inOk (x : D) (ds : List D) : Bool := x.plain && plainL ds && SeqAt.shaped x.py && SeqAt.shaped (.list (pyL ds))
def inB (x : D) (ds : List D) : Bool := (pyL ds).any fun y => PyData.eqv y x.py
end
def gIx : D → D → Option D := fun x y => match x, y with
  | .lst ds, .int i => atI ds i
  | .tup ds, .int i => atI ds i
  | .tn ds, .int i => atI ds i
  | .str z, .int i => if z.length ≤ sizeLine then (atI z.cps.toList i).map fun c => .str ⟨#[c]⟩ else none
  | .dK kvs, y => (keyOf y).bind fun k => valD kvs k
  | _, _ => none
theorem Dens.at_ {z : Bs} {F : Hp} {vs : List V} {ds : List D} {i : Int} {d : D} (h : Dens z F vs ds) (e : atI ds i = some d) : ∃ v, atI vs i = some v ∧ Den z F v d := by
  unfold atI at e ⊢
  rw [Option.bind_eq_some_iff] at e
  obtain ⟨j, e1, e2⟩ := e
  obtain ⟨v, e3, e4⟩ := h.get e2
  exact ⟨v, by rw [h.length, e1]; exact e3, e4⟩
def cutL {α : Type} (xs : List α) (lo hi : Option Int) : List α := (xs.drop (HT.sIx xs.length 0 lo)).take (HT.sIx xs.length xs.length hi - HT.sIx xs.length 0 lo)
theorem Dens.cut {z : Bs} {F : Hp} {vs : List V} {ds : List D} (h : Dens z F vs ds) (lo hi : Option Int) : Dens z F (cutV vs lo hi) (cutL ds lo hi) := by
  unfold cutV cutL
  rw [h.length]
  exact (h.drop _).take _
def gSl : D → Option Int → Option Int → Option D := fun x lo hi => match x with
  | .lst ds => some (.lst (cutL ds lo hi))
  | .tup ds => some (.tup (cutL ds lo hi))
  | .str z => if z.length ≤ sizeLine then some (.str (cutS z lo hi)) else none
  | _ => none
def gSlL : D → Option Int → Option Int → Option D := fun x lo hi => match x with
  | .lst ds => some (.lst (cutL ds lo hi))
  | _ => none
theorem slL_lst : ∀ x l h d, gSlL x l h = some d → isLst d := fun x l h d e => by
  unfold gSlL at e
  split at e
  · cases e
    trivial
  · cases e
section
variable {X : Cx}
def rSl (K : PySem.W.Frag) : V → Option Int → Option Int → Hp → VK → Prop := fun x lo hi H Q => rSlL K x lo hi H Q ∨ rSlA K x lo hi H Q ∨ rSlS x lo hi H Q
theorem sl_all : SlR X (rSl X.kx) := SlR.or sl_list (SlR.or sl_tupA sl_str)
theorem ok_slL (K : Kx) : SlOk K .fr (rSlL K) gSlL := fun z F H B x lo hi dx d hK s bg h1 e Q k => by
  cases dx with
  | lst ds =>
    cases e
    obtain ⟨a, vs, rfl, ha, da⟩ := Bor.lst s h1
    refine ⟨a, vs, rfl, SqL.of ha, fun p hp => ?_⟩
    exact k _ F _ (Grow.laid s hp) (bg.laid hp) ⟨p, _, rfl, bg.new hp, hp, free_of s hp, upd_same, .lst (da.cut lo hi)⟩
  | _ => cases e
theorem ok_sl (K : Kx) : SlOk K .st (rSl K) gSl := fun z F H B x lo hi dx d hK s bg h1 e Q k => by
  cases dx with
  | lst ds =>
    have e' : gSlL (.lst ds) lo hi = some d := e
    exact .inl (SlOk.settle slL_lst (ok_slL K) z F H B x lo hi _ d hK s bg h1 e' Q k)
  | tup ds =>
    cases e
    obtain ⟨a, vs, rfl, ha, da⟩ := Bor.tup h1
    have ha' : SqT K F a vs := hK ▸ ha
    refine .inr (.inl ⟨a, vs, rfl, sqt_same s ha', fun hw => ?_, fun _ p hp => ?_⟩)
    · have e : cutL ds lo hi = ds := by
        unfold cutL
        rw [da.length] at hw
        rw [hw.1, hw.2, List.drop_zero, Nat.sub_zero, List.take_length]
      rw [e] at k
      exact k _ F H (Grow.refl s) bg (.tup ha da)
    · exact k _ _ _ (Grow.laidS s hp) (bg.laidS s hp) (.tup (SqT.of upd_same) ((da.cut lo hi).mono (same_upd_free (free_of s hp))))
  | str w =>
    have e : (if w.length ≤ sizeLine then some (D.str (cutS w lo hi)) else none) = some d := e
    by_cases hl : w.length ≤ sizeLine
    · rw [if_pos hl] at e
      cases e
      exact .inr (.inr ⟨w, Bor.str h1, hl, k _ F H (Grow.refl s) bg (.str _)⟩)
    · rw [if_neg hl] at e
      cases e
  | _ => cases e
def gLen : D → Option D := fun x => match x with
  | .lst ds => some (.int (ds.length : Nat))
  | .tup ds => some (.int (ds.length : Nat))
  | .str z => if z.length ≤ sizeLine then some (.int (z.length : Nat)) else none
  | .dK kvs => some (.int (kvs.length : Nat))
  | .tn ds => some (.int (ds.length : Nat))
  | _ => none
theorem call_lenR : CallR X (.builtin "len") (fun xs H Q => ∃ a kvs, xs = [V.ref a] ∧ Rd H a (.dK kvs) ∧ Q (.int kvs.length) H) := by
  intro pins s σ H xs us Q I r h
  obtain ⟨a, kvs, rfl, ha, q⟩ := h
  obtain ⟨u, rfl, ru⟩ := vals1 r
  cases ru
  have I2 := I
  exact d_len I (by first | exact .inl ha | exact ha) fun t s' I' => ⟨.int kvs.length, H, I', ⟨t, rfl⟩, q⟩
def rLen (K : PySem.W.Frag) : List V → Hp → VK → Prop := fun xs H Q => (∃ p ys, xs = [.ref p] ∧ (SqL K H p ys ∨ SqT K H p ys) ∧ Q (.int ys.length) H) ∨ (∃ z, xs = [.str z] ∧ z.length ≤ sizeLine ∧ Q (.int z.length) H) ∨ ∃ a kvs, xs = [.ref a] ∧ Rd H a (.dK kvs) ∧ Q (.int kvs.length) H
theorem call_lenA : CallR X (.builtin "len") (rLen X.kx) := CallR.or call_len_seq (CallR.or call_len_str call_lenR)
theorem ok_len (K : Kx) : UnOk K .st (fun v H Q => rLen K [v] H Q) gLen := fun z F H B x dx d hK s bg h1 e Q k => by
  cases dx with
  | lst ds =>
    cases e
    obtain ⟨a, vs, rfl, ha, da⟩ := Bor.lst s h1
    exact .inl ⟨a, vs, rfl, .inl (SqL.of ha), by rw [da.length]; exact k _ F H (Grow.refl s) bg (.int _)⟩
  | tup ds =>
    cases e
    obtain ⟨a, vs, rfl, ha, da⟩ := Bor.tup h1
    have ha' : SqT K F a vs := hK ▸ ha
    exact .inl ⟨a, vs, rfl, .inr (sqt_same s ha'), by rw [da.length]; exact k _ F H (Grow.refl s) bg (.int _)⟩
  | str w =>
    have e : (if w.length ≤ sizeLine then some (D.int (w.length : Nat)) else none) = some d := e
    by_cases hl : w.length ≤ sizeLine
    · rw [if_pos hl] at e
      cases e
      exact .inr (.inl ⟨w, by rw [Bor.str h1], hl, k _ F H (Grow.refl s) bg (.int _)⟩)
    · rw [if_neg hl] at e
      cases e
  | dK kvs =>
    cases e
    obtain ⟨a, vs, rfl, ha, da⟩ := Bor.dK s h1
    exact .inr (.inr ⟨a, vs, rfl, ha, by rw [da.length]; exact k _ F H (Grow.refl s) bg (.int _)⟩)
  | tn ds =>
    cases e
    obtain ⟨a, vs, rfl, ha, da⟩ := Bor.tn h1
    exact .inl ⟨a, vs, rfl, .inr (sqt_same s ha.sqt), by rw [da.length]; exact k _ F H (Grow.refl s) bg (.int _)⟩
  | _ => cases e
def gList : D → Option D := fun x => match x with
  | .lst ds => some (.lst ds)
  | .tup ds => some (.lst ds)
  | .tn ds => some (.lst ds)
  | _ => none
theorem ok_list (K : Kx) : UnOk K .fr (fun v H Q => ∃ p ys, [v] = [.ref p] ∧ (SqL K H p ys ∨ SqT K H p ys) ∧ ∀ l, H l = none → Q (.ref l) (upd H l (.lst ys))) gList := fun z F H B x dx d hK s bg h1 e Q k => by
  cases dx with
  | lst ds =>
    cases e
    obtain ⟨a, vs, rfl, ha, da⟩ := Bor.lst s h1
    exact ⟨a, vs, rfl, .inl (SqL.of ha), fun p hp => k _ F _ (Grow.laid s hp) (bg.laid hp) ⟨p, _, rfl, bg.new hp, hp, free_of s hp, upd_same, .lst da⟩⟩
  | tup ds =>
    cases e
    obtain ⟨a, vs, rfl, ha, da⟩ := Bor.tup h1
    have ha' : SqT K F a vs := hK ▸ ha
    exact ⟨a, vs, rfl, .inr (sqt_same s ha'), fun p hp => k _ F _ (Grow.laid s hp) (bg.laid hp) ⟨p, _, rfl, bg.new hp, hp, free_of s hp, upd_same, .lst da⟩⟩
  | tn ds =>
    cases e
    obtain ⟨a, vs, rfl, ha, da⟩ := Bor.tn h1
    exact ⟨a, vs, rfl, .inr (sqt_same s ha.sqt), fun p hp => k _ F _ (Grow.laid s hp) (bg.laid hp) ⟨p, _, rfl, bg.new hp, hp, free_of s hp, upd_same, .lst da⟩⟩
  | _ => cases e
def gInt : D → Option D := fun x => match x with
  | .int i => some (.int i)
  | .bl k => some (.int (if k then 1 else 0))
  | _ => none
theorem ok_int (K : Kx) : UnOk K .st (fun v H Q => (∃ i, [v] = [.int i] ∧ Q (.int i) H) ∨ ∃ k, [v] = [.bl k] ∧ Q (.int (if k then 1 else 0)) H) gInt := fun z F H B x dx d hK s bg h1 e Q k => by
  cases dx with
  | int i =>
    cases e
    exact .inl ⟨i, by rw [Bor.int h1], k _ F H (Grow.refl s) bg (.int _)⟩
  | bl j =>
    cases e
    exact .inr ⟨j, by rw [Bor.bl h1], k _ F H (Grow.refl s) bg (.int _)⟩
  | _ => cases e
/-- repr of nested data -/
def showOk (x : D) : Bool := x.plain && x.py.showable && decide (x.py.depth < 64) && decide (x.py.shown.length ≤ sizeLine)
def gRepr : D → Option D := fun x => match x with
  | .tup ds => if showOk (.tup ds) then some (.str (D.tup ds).py.shown) else none
  | .lst ds => if showOk (.lst ds) then some (.str (D.lst ds).py.shown) else none
  | .tn ds => if showOk (.tn ds) then some (.str (D.tn ds).py.shown) else none
  | .int i => if i.natAbs.log2 < 1920 then some (.str (toString i)) else none
  | .str x => if (reprText x).length ≤ sizeLine then some (.str (reprText x)) else none
  | .bl k => some (.str (if k then "True" else "False"))
  | .non => some (.str "None")
  | _ => none
mutual
theorem plain_noDict : ∀ d : D, d.plain = true → d.py.hasDict = false
  | .non, _ => by unfold D.py; rfl
  | .bl _, _ => by unfold D.py; rfl
  | .int _, _ => by unfold D.py; rfl
  | .str _, _ => by unfold D.py; rfl
  | .tup ds, h => by
    unfold D.py PyData.hasDict
    unfold D.plain at h
    exact plainL_noDict ds h
  | .lst ds, h => by
    unfold D.py PyData.hasDict
    unfold D.plain at h
    exact plainL_noDict ds h
  | .dK _, h => by unfold D.plain at h; cases h
  | .dT _, h => by unfold D.plain at h; cases h
  | .bag, h => by unfold D.plain at h; cases h
  | .tn ds, h => by
    unfold D.py PyData.hasDict
    unfold D.plain at h
    exact plainL_noDict ds h
theorem plainL_noDict : ∀ ds : List D, plainL ds = true → PyData.hasDictAll (pyL ds) = false
  | [], _ => by unfold pyL; rfl
  | d :: ds, h => by
    unfold plainL at h
    rw [Bool.and_eq_true] at h
    unfold pyL PyData.hasDictAll
    rw [plain_noDict d h.1, plainL_noDict ds h.2]
    rfl
end
def rRepr (K : PySem.W.Frag) : List V → Hp → VK → Prop := fun xs H Q => (∃ a d, xs = [.ref a] ∧ Dp K H (.ref a) d ∧ d.showable = true ∧ d.hasDict = false ∧ d.depth < 64 ∧ d.shown.length ≤ sizeLine ∧ Q (.str d.shown) H) ∨ (∃ i, xs = [.int i] ∧ i.natAbs.log2 < 1920 ∧ Q (.str (toString i)) H) ∨ (∃ x, xs = [.str x] ∧ (reprText x).length ≤ sizeLine ∧ Q (.str (reprText x)) H) ∨ (∃ k : Bool, xs = [.bl k] ∧ Q (.str (if k then "True" else "False")) H) ∨ (xs = [.non] ∧ Q (.str "None") H)
theorem call_reprD (hg : X.A.guards = some []) (hu : X.A.units + 64 < cLine) : CallR X (.builtin "repr") (rRepr X.kx) := by
  intro pins s σ H xs us Q I r h
  rcases h with ⟨a, d, rfl, hd, h1, h2, h3, h4, q⟩ | h | ⟨x, rfl, hx, q⟩ | ⟨k, rfl, q⟩ | ⟨rfl, q⟩
  · obtain ⟨u, rfl, ru⟩ := vals1 r
    obtain ⟨as, rr⟩ := Dp.reads I d _ u hd ru
    cases ru
    exact repr_of_reads' rr h1 (PyData.noDict_hsm h2) hg (by omega) (fun _ _ e => e) (fun h' u tk hk => ⟨.str _, H, I.kept (t' := tk) hk, ⟨_, rfl⟩, q⟩) h4
  · exact SkE.call_repr_int pins s σ H xs us Q I r h
  · obtain ⟨u, rfl, t, rfl⟩ := vals1 r
    exact PySem.P.repr_of_str (⟨.str _, H, I.tok _, ⟨_, rfl⟩, q⟩) hx
  · obtain ⟨u, rfl, ru⟩ := vals1 r
    obtain rfl : u = Value.bool k := ru
    exact PySem.P.repr_of_bool ⟨.str _, H, I.tok _, ⟨_, rfl⟩, q⟩
  · obtain ⟨u, rfl, ru⟩ := vals1 r
    obtain rfl : u = Value.none := ru
    exact PySem.P.repr_of_none ⟨.str _, H, I.tok _, ⟨_, rfl⟩, q⟩
theorem ok_repr : UnOk X.kx .st (fun v H Q => rRepr X.kx [v] H Q) gRepr := fun z F H B x dx d hK s bg h1 e Q k => by
  have fin : ∀ dx : D, (∃ a, x = .ref a) → Bor z F H x dx → showOk dx = true → d = .str dx.py.shown → rRepr X.kx [x] H Q := fun dx ⟨a, ea⟩ h1 h2 e => by
    subst e ea
    unfold showOk at h2
    rw [Bool.and_eq_true, Bool.and_eq_true, Bool.and_eq_true] at h2
    exact .inl ⟨a, dx.py, rfl, hK ▸ Bor.dp s h1 h2.1.1.1, h2.1.1.2, plain_noDict dx h2.1.1.1, of_decide_eq_true h2.1.2, of_decide_eq_true h2.2, k _ F H (Grow.refl s) bg (.str _)⟩
  cases dx with
  | lst ds =>
    have e : (if showOk (.lst ds) = true then some (D.str (D.lst ds).py.shown) else none) = some d := e
    by_cases hl : showOk (.lst ds) = true
    · rw [if_pos hl] at e
      obtain ⟨a, vs, ea, _⟩ := Bor.lst s h1
      exact fin _ ⟨a, ea⟩ h1 hl (Option.some.inj e).symm
    · rw [if_neg hl] at e
      cases e
  | tup ds =>
    have e : (if showOk (.tup ds) = true then some (D.str (D.tup ds).py.shown) else none) = some d := e
    by_cases hl : showOk (.tup ds) = true
    · rw [if_pos hl] at e
      obtain ⟨a, vs, ea, _⟩ := Bor.tup h1
      exact fin _ ⟨a, ea⟩ h1 hl (Option.some.inj e).symm
    · rw [if_neg hl] at e
      cases e
  | tn ds =>
    have e : (if showOk (.tn ds) = true then some (D.str (D.tn ds).py.shown) else none) = some d := e
    by_cases hl : showOk (.tn ds) = true
    · rw [if_pos hl] at e
      obtain ⟨a, vs, ea, _⟩ := Bor.tn h1
      exact fin _ ⟨a, ea⟩ h1 hl (Option.some.inj e).symm
    · rw [if_neg hl] at e
      cases e
  | int i =>
    have e : (if i.natAbs.log2 < 1920 then some (D.str (toString i)) else none) = some d := e
    by_cases hl : i.natAbs.log2 < 1920
    · rw [if_pos hl] at e
      cases e
      exact .inr (.inl ⟨i, by rw [Bor.int h1], hl, k _ F H (Grow.refl s) bg (.str _)⟩)
    · rw [if_neg hl] at e
      cases e
  | str z =>
    have e : (if (reprText z).length ≤ sizeLine then some (D.str (reprText z)) else none) = some d := e
    by_cases hl : (reprText z).length ≤ sizeLine
    · rw [if_pos hl] at e
      cases e
      exact .inr (.inr (.inl ⟨z, by rw [Bor.str h1], hl, k _ F H (Grow.refl s) bg (.str _)⟩))
    · rw [if_neg hl] at e
      cases e
  | bl j =>
    cases e
    exact .inr (.inr (.inr (.inl ⟨j, by rw [Bor.bl h1], k _ F H (Grow.refl s) bg (.str _)⟩)))
  | non =>
    cases e
    exact .inr (.inr (.inr (.inr ⟨by rw [Bor.non h1], k _ F H (Grow.refl s) bg (.str _)⟩)))
  | _ => cases e
end
end DL
namespace DL
open PySem PySem.Spec PyProof.Rows L2
theorem dget_r {H : Hp} {a : Addr} {kvs : List (Key × V)} {k : Key} (e : Rd H a (.dK kvs)) : DGet H a (kV k) (valV kvs k) := .inl ⟨kvs, k, e, rfl, rfl⟩
section
variable {X : Cx} {ow : Mk} {ro : List Nat} {m : Mo} {pos p : Pos} {a b e : Expr} {fa fb f : Ex} {x : Str}
/-- a[b], of a list, a tuple, a text, a dict -/
theorem pv_ixA (hu : X.A.units + 1 < cLine) (ha : PV .bo ow ro X a fa) (hb : PV .bo ow ro X b fb) (hs : PlainIx b := by exact fun _ _ => rfl) (hs2 : NoSl b := by exact fun _ _ => rfl) : PV .st ow ro X (.Subscript a b pos) (x2 gIx fa fb) :=
  PV.of (pe_or (pe_ix ix_seq ha hb hs) (pe_dget hu ha hb hs2)) fun w ρ B F H σ d B' hK hR r hf Q k => by
    obtain ⟨x, B1, y, e1, e2, e3⟩ := x2_some hf
    have go : ∀ R : V → V → Hp → Hp → Prop, True := fun _ => trivial
    cases x with
    | dK kvs =>
      refine .inr ⟨w, ρ, B, F, _, B1, hK, hR, r, e1, fun v1 F1 H1 g1 b1 q1 => ⟨w, ρ, B1, F1, y, _, hK, hR, r.grow g1 b1, e2, fun v2 F2 H2 g2 b2 q2 => ?_⟩⟩
      obtain ⟨c, vs, rfl, hc, dc⟩ := Bor.dK g2.sub (Bor.grow q1 g2)
      have e3 : ((keyOf y).bind fun k => valD kvs k) = some d := e3
      rw [Option.bind_eq_some_iff] at e3
      obtain ⟨ky, e4, e5⟩ := e3
      obtain ⟨v, e6, e7⟩ := dc.val e5
      have hk := key_den q2 e4
      subst hk
      refine ⟨c, v, rfl, ?_, k v F2 H2 (g1.trans g2) b2 e7⟩
      rw [← e6]
      exact dget_r hc
    | lst ds =>
      cases y with
      | int i =>
        refine .inl ⟨w, ρ, B, F, _, B1, hK, hR, r, e1, fun v1 F1 H1 g1 b1 q1 => ⟨w, ρ, B1, F1, _, _, hK, hR, r.grow g1 b1, e2, fun v2 F2 H2 g2 b2 q2 => ?_⟩⟩
        obtain ⟨c, vs, rfl, hc, dc⟩ := Bor.lst g2.sub (Bor.grow q1 g2)
        obtain ⟨v, e6, e7⟩ := dc.at_ (show atI ds i = some d from e3)
        exact .inl ⟨c, vs, i, v, rfl, Bor.int q2, SqL.of hc, e6, k v F2 H2 (g1.trans g2) b2 e7⟩
      | _ => cases e3
    | tup ds =>
      cases y with
      | int i =>
        refine .inl ⟨w, ρ, B, F, _, B1, hK, hR, r, e1, fun v1 F1 H1 g1 b1 q1 => ⟨w, ρ, B1, F1, _, _, hK, hR, r.grow g1 b1, e2, fun v2 F2 H2 g2 b2 q2 => ?_⟩⟩
        obtain ⟨c, vs, rfl, hc, dc⟩ := Bor.tup (Bor.grow q1 g2)
        obtain ⟨v, e6, e7⟩ := dc.at_ (show atI ds i = some d from e3)
        rw [hK] at hc
        exact .inr (.inl ⟨c, vs, i, v, rfl, Bor.int q2, sqt_same g2.sub hc, e6, k v F2 H2 (g1.trans g2) b2 e7⟩)
      | _ => cases e3
    | tn ds =>
      cases y with
      | int i =>
        refine .inl ⟨w, ρ, B, F, _, B1, hK, hR, r, e1, fun v1 F1 H1 g1 b1 q1 => ⟨w, ρ, B1, F1, _, _, hK, hR, r.grow g1 b1, e2, fun v2 F2 H2 g2 b2 q2 => ?_⟩⟩
        obtain ⟨c, vs, rfl, hc, dc⟩ := Bor.tn (Bor.grow q1 g2)
        obtain ⟨v, e6, e7⟩ := dc.at_ (show atI ds i = some d from e3)
        exact .inr (.inl ⟨c, vs, i, v, rfl, Bor.int q2, sqt_same g2.sub hc.sqt, e6, k v F2 H2 (g1.trans g2) b2 e7⟩)
      | _ => cases e3
    | str z =>
      cases y with
      | int i =>
        have e3 : (if z.length ≤ sizeLine then (atI z.cps.toList i).map fun c => D.str ⟨#[c]⟩ else none) = some d := e3
        by_cases hl : z.length ≤ sizeLine
        · rw [if_pos hl, Option.map_eq_some_iff] at e3
          obtain ⟨c, e4, e5⟩ := e3
          subst e5
          refine .inl ⟨w, ρ, B, F, _, B1, hK, hR, r, e1, fun v1 F1 H1 g1 b1 q1 => ⟨w, ρ, B1, F1, _, _, hK, hR, r.grow g1 b1, e2, fun v2 F2 H2 g2 b2 q2 => ?_⟩⟩
          exact .inr (.inr ⟨z, i, c, Bor.str q1, Bor.int q2, hl, e4, k _ F2 H2 (g1.trans g2) b2 (.str _)⟩)
        · rw [if_neg hl] at e3
          cases e3
      | _ => cases e3
    | _ => cases y <;> cases e3
def gInA (t : Bool) : D → D → Option D := fun x y => match y with
  | .lst ds => if inOk x ds then some (.bl (if t then inB x ds else !inB x ds)) else none
  | .tup ds => if inOk x ds then some (.bl (if t then inB x ds else !inB x ds)) else none
  | .tn ds => if inOk x ds then some (.bl (if t then inB x ds else !inB x ds)) else none
  | .dK kvs => (keyOf x).map fun k => .bl (if t then (valD kvs k).isSome else !(valD kvs k).isSome)
  | .str z => match x with
    | .str a => match a.cps.toList with
      | [c] => some (.bl (if t then decide (c ∈ z.cps.toList) else !decide (c ∈ z.cps.toList)))
      | _ => none
    | _ => none
  | _ => none
def rInT (K : PySem.W.Frag) (t : Bool) : R2 := fun x y H Q => ∃ d ds, Dp K H x d ∧ Dp K H y (.tuple ds) ∧ SeqAt.shaped d = true ∧ SeqAt.shaped (.tuple ds) = true ∧ Q (.bl (if t then ds.any fun z => PyData.eqv z d else !ds.any fun z => PyData.eqv z d)) H
theorem op_inT (hu : X.A.units + 65 < cLine) : OpR X (compareOp .In) (rInT X.kx true) := by
  rintro pins s σ H x y v u Q I rx ry ⟨d, ds, hd, he, sd, se, q⟩
  obtain ⟨as, r1⟩ := Dp.reads I d x v hd rx
  obtain ⟨bs, r2⟩ := Dp.reads I _ y u he ry
  have hl : PyData.canLay0 (.tuple ds) = true := SeqAt.canLay_of_shaped se
  unfold PyData.canLay0 at hl
  exact SeqAt.in_tuple_reads r2 r1 hl (SeqAt.canLay_of_shaped sd) (room_in_shaped sd hu) ⟨.bl _, H, I, rfl, q⟩
theorem op_notInT (hu : X.A.units + 65 < cLine) : OpR X (compareOp .NotIn) (rInT X.kx false) := by
  rintro pins s σ H x y v u Q I rx ry ⟨d, ds, hd, he, sd, se, q⟩
  obtain ⟨as, r1⟩ := Dp.reads I d x v hd rx
  obtain ⟨bs, r2⟩ := Dp.reads I _ y u he ry
  have hl : PyData.canLay0 (.tuple ds) = true := SeqAt.canLay_of_shaped se
  unfold PyData.canLay0 at hl
  exact SeqAt.notIn_tuple_reads r2 r1 hl (SeqAt.canLay_of_shaped sd) (room_in_shaped sd hu) ⟨.bl _, H, I, rfl, q⟩
def rInS (t : Bool) : R2 := fun x y H Q => ∃ (c : Nat) (z : Str), x = .str ⟨#[c]⟩ ∧ y = .str z ∧ Q (.bl (if t then decide (c ∈ z.cps.toList) else !decide (c ∈ z.cps.toList))) H
def rInA (K : PySem.W.Frag) (t : Bool) : R2 := fun x y H Q => (if t then rInD K x y H Q else rNotInD K x y H Q) ∨ rInT K t x y H Q ∨ rInS t x y H Q
theorem op_inA (hu : X.A.units + 65 < cLine) : OpR X (compareOp .In) (rInA X.kx true) := OpR.or (op_inD hu) (OpR.or (op_inT hu) op_in_sign)
theorem op_notInA (hu : X.A.units + 65 < cLine) : OpR X (compareOp .NotIn) (rInA X.kx false) := OpR.or (op_notInD hu) (OpR.or (op_notInT hu) op_notIn_sign)
theorem shaped_tl {ds : List PyData} (h : SeqAt.shaped (.list ds) = true) : SeqAt.shaped (.tuple ds) = true := by
  unfold SeqAt.shaped at h ⊢
  unfold PyData.canLay0 PyData.depth at h ⊢
  exact h
theorem one_sign {a : Str} {c : Nat} (h : a.cps.toList = [c]) : a = ⟨#[c]⟩ := by
  obtain ⟨l⟩ := a
  have h : l.toList = [c] := h
  have h2 : l = #[c] := by
    apply Array.toList_inj.mp
    rw [h]
  rw [h2]
/-- not a dict -/
def noDict : D → Bool
  | .dK _ => false
  | _ => true
theorem ok_inA (K : Kx) (t : Bool) {z : Bs} {F H : Hp} {x y : V} {dx dy d : D} (hK : z.K = K) (s : Same F H) (h1 : Bor z F H x dx) (h2 : Bor z F H y dy) (nd : noDict dy = true) (e : gInA t dx dy = some d) : ∃ k, d = .bl k ∧ ∀ Q : VK, Q (.bl k) H → rInA K t x y H Q := by
  cases dy with
  | lst ds =>
    have e : (if inOk dx ds = true then some (D.bl (if t then inB dx ds else !inB dx ds)) else none) = some d := e
    by_cases hl : inOk dx ds = true
    · rw [if_pos hl] at e
      cases e
      refine ⟨_, rfl, fun Q q => .inl ?_⟩
      unfold inOk at hl
      rw [Bool.and_eq_true, Bool.and_eq_true, Bool.and_eq_true] at hl
      have hy := Bor.dp s h2 (show D.plain (.lst ds) = true by unfold D.plain; exact hl.1.1.2)
      unfold D.py at hy
      have hx := Bor.dp s h1 hl.1.1.1
      rw [hK] at hx hy
      cases t with
      | true => exact ⟨_, _, hx, hy, hl.1.2, hl.2, q⟩
      | false => exact ⟨_, _, hx, hy, hl.1.2, hl.2, q⟩
    · rw [if_neg hl] at e
      cases e
  | tup ds =>
    have e : (if inOk dx ds = true then some (D.bl (if t then inB dx ds else !inB dx ds)) else none) = some d := e
    by_cases hl : inOk dx ds = true
    · rw [if_pos hl] at e
      cases e
      refine ⟨_, rfl, fun Q q => .inr (.inl ?_)⟩
      unfold inOk at hl
      rw [Bool.and_eq_true, Bool.and_eq_true, Bool.and_eq_true] at hl
      have hy := Bor.dp s h2 (show D.plain (.tup ds) = true by unfold D.plain; exact hl.1.1.2)
      unfold D.py at hy
      have hx := Bor.dp s h1 hl.1.1.1
      rw [hK] at hx hy
      exact ⟨_, _, hx, hy, hl.1.2, shaped_tl hl.2, q⟩
    · rw [if_neg hl] at e
      cases e
  | tn ds =>
    have e : (if inOk dx ds = true then some (D.bl (if t then inB dx ds else !inB dx ds)) else none) = some d := e
    by_cases hl : inOk dx ds = true
    · rw [if_pos hl] at e
      cases e
      refine ⟨_, rfl, fun Q q => .inr (.inl ?_)⟩
      unfold inOk at hl
      rw [Bool.and_eq_true, Bool.and_eq_true, Bool.and_eq_true] at hl
      have hy := Bor.dp s h2 (show D.plain (.tn ds) = true by unfold D.plain; exact hl.1.1.2)
      unfold D.py at hy
      have hx := Bor.dp s h1 hl.1.1.1
      rw [hK] at hx hy
      exact ⟨_, _, hx, hy, hl.1.2, shaped_tl hl.2, q⟩
    · rw [if_neg hl] at e
      cases e
  | str z =>
    cases dx with
    | str a =>
      have e : (match a.cps.toList with | [c] => some (D.bl (if t then decide (c ∈ z.cps.toList) else !decide (c ∈ z.cps.toList))) | _ => none) = some d := e
      cases hc : a.cps.toList with
      | nil => rw [hc] at e; cases e
      | cons c r =>
        cases r with
        | nil =>
          rw [hc] at e
          cases e
          exact ⟨_, rfl, fun Q q => .inr (.inr ⟨c, z, by rw [Bor.str h1, one_sign hc], Bor.str h2, q⟩)⟩
        | cons _ _ => rw [hc] at e; cases e
    | _ => cases e
  | dK _ => cases nd
  | _ => cases e
theorem in_any (t : Bool) {op : CmpOp} (ho : OpR X (compareOp op) (rInA X.kx t)) {td : TE} (hd : PE X (.Compare a [op] [b] pos) td) (hdc : ∀ (w : Wd) (ρ : Env) (B : Bg) (F H : Hp) (σ : Sl) (kvs : List (Key × D)) (d dx : D) (B1 B' : Bg), w.z.K = X.kx → w.R.map (·.1) = ro → Rel w ow ρ B F H σ → fa ρ B = some (dx, B1) → fb ρ B1 = some (.dK kvs, B') →
    gInA t dx (.dK kvs) = some d → ∀ Q : VK, (∀ v F' H', Grow w.z F H F' H' → BagAt w.z F' H' B' → Den w.z F' v d → Q v H') → td σ H Q)
    (ha : PV .bo ow ro X a fa) (hb : PV .bo ow ro X b fb) (hm : behindInMarks op b = false) : PV .st ow ro X (.Compare a [op] [b] pos) (x2 (gInA t) fa fb) :=
  PV.of (pe_or (pe_cmpR ho ha hb hm) hd) fun w ρ B F H σ d B' hK hR r hf Q k => by
    obtain ⟨dx, B1, dy, e1, e2, e3⟩ := x2_some hf
    by_cases nd : noDict dy = true
    · refine .inl ⟨w, ρ, B, F, dx, B1, hK, hR, r, e1, fun v1 F1 H1 g1 b1 q1 => ⟨w, ρ, B1, F1, dy, _, hK, hR, r.grow g1 b1, e2, fun v2 F2 H2 g2 b2 q2 => ?_⟩⟩
      obtain ⟨j, rfl, q⟩ := ok_inA X.kx t hK g2.sub (Bor.grow q1 g2) q2 nd e3
      exact q Q (k _ F2 H2 (g1.trans g2) b2 (.bl j))
    · cases dy with
      | dK kvs => exact .inr (hdc w ρ B F H σ kvs d dx B1 B' hK hR r e1 e2 e3 Q k)
      | _ => exact absurd rfl nd
theorem pv_in (hu : X.A.units + 65 < cLine) (ha : PV .bo ow ro X a fa) (hb : PV .bo ow ro X b fb) (hm : behindInMarks .In b = false := by rfl) : PV .st ow ro X (.Compare a [.In] [b] pos) (x2 (gInA true) fa fb) :=
  in_any true (op_inA hu) (pe_cmp (pc_din (by omega) ha hb) hm) (fun w ρ B F H σ kvs d dx B1 B' hK hR r e1 e2 e3 Q k => by
    refine ⟨w, ρ, B, F, dx, B1, hK, hR, r, e1, fun v1 F1 H1 g1 b1 q1 => ⟨w, ρ, B1, F1, _, _, hK, hR, r.grow g1 b1, e2, fun v2 F2 H2 g2 b2 q2 => ?_⟩⟩
    obtain ⟨c, vs, rfl, hc, dc⟩ := Bor.dK g2.sub q2
    have e3 : ((keyOf dx).map fun k => D.bl (valD kvs k).isSome) = some d := e3
    rw [Option.map_eq_some_iff] at e3
    obtain ⟨ky, e4, rfl⟩ := e3
    have hk := key_den (Bor.grow q1 g2) e4
    subst hk
    refine ⟨c, valV vs ky, rfl, dget_r hc, ?_⟩
    have eq : (valV vs ky).isSome = (valD kvs ky).isSome := by
      cases h : valD kvs ky with
      | none =>
        rw [dc.valNone h]
        rfl
      | some d' =>
        obtain ⟨v, e5, _⟩ := dc.val h
        rw [e5]
        rfl
    rw [eq]
    exact k _ F2 H2 (g1.trans g2) b2 (.bl _)) ha hb hm
theorem pv_notIn (hu : X.A.units + 65 < cLine) (ha : PV .bo ow ro X a fa) (hb : PV .bo ow ro X b fb) (hm : behindInMarks .NotIn b = false := by rfl) : PV .st ow ro X (.Compare a [.NotIn] [b] pos) (x2 (gInA false) fa fb) :=
  in_any false (op_notInA hu) (pe_cmp (pc_dnotin (by omega) ha hb) hm) (fun w ρ B F H σ kvs d dx B1 B' hK hR r e1 e2 e3 Q k => by
    refine ⟨w, ρ, B, F, dx, B1, hK, hR, r, e1, fun v1 F1 H1 g1 b1 q1 => ⟨w, ρ, B1, F1, _, _, hK, hR, r.grow g1 b1, e2, fun v2 F2 H2 g2 b2 q2 => ?_⟩⟩
    obtain ⟨c, vs, rfl, hc, dc⟩ := Bor.dK g2.sub q2
    have e3 : ((keyOf dx).map fun k => D.bl (!(valD kvs k).isSome)) = some d := e3
    rw [Option.map_eq_some_iff] at e3
    obtain ⟨ky, e4, rfl⟩ := e3
    have hk := key_den (Bor.grow q1 g2) e4
    subst hk
    refine ⟨c, valV vs ky, rfl, dget_r hc, ?_⟩
    have eq : (valV vs ky).isSome = (valD kvs ky).isSome := by
      cases h : valD kvs ky with
      | none =>
        rw [dc.valNone h]
        rfl
      | some d' =>
        obtain ⟨v, e5, _⟩ := dc.val h
        rw [e5]
        rfl
    rw [eq]
    exact k _ F2 H2 (g1.trans g2) b2 (.bl _)) ha hb hm
def rgD (i j : Int) : List D := (List.range (j - i).toNat).map fun k => .int (i + (k : Nat))
theorem rgD_den {z : Bs} {F : Hp} (i j : Int) : Dens z F (rgV i j) (rgD i j) := by
  unfold rgV rgD
  generalize List.range (j - i).toNat = l
  induction l with
  | nil => exact .nil
  | cons k l ih => exact .cons (.int _) ih
def rgOk (i j : Int) : Bool := decide (-(2 ^ 62) ≤ i ∧ i < 2 ^ 62 ∧ -(2 ^ 62) ≤ j ∧ j < 2 ^ 62 ∧ (j - i).toNat ≤ 2 ^ 24)
theorem rgOk_ok {i j : Int} (h : rgOk i j = true) : RgOk i j := by
  unfold rgOk at h
  have h := of_decide_eq_true h
  exact h
def gLR1 : D → Option D := fun x => match x with
  | .int j => if rgOk 0 j then some (.lst (rgD 0 j)) else none
  | _ => none
theorem pv_listR1 {q : Pos} (ha : PV .bo ow ro X a fa) (hl : X.mg "list" = none) (hm : X.mg "range" = none) (hc : X.calm = true := by rfl) (hgl : Gl X "list" := by rfl) (hg : Gl X "range" := by rfl) (na : starEach [a] X.env = (false, eval a X.env) :: starEach [] X.env := by rfl)
    (nb : starEach [.Call (.Name "range" q) [a] [] p] X.env = (false, eval (.Call (.Name "range" q) [a] [] p) X.env) :: starEach [] X.env := by rfl) {r1 : Pos} : PV .fr ow ro X (.Call (.Name "list" r1) [.Call (.Name "range" q) [a] [] p] [] pos) (x1 gLR1 fa) :=
  PV.of (pe_listRg hc hgl hl (prg_1 hg hm ha na) nb) fun w ρ B F H σ d B' hK hR r hf Q k => by
    obtain ⟨x, e1, e3⟩ := x1_some hf
    cases x with
    | int j =>
      have e3 : (if rgOk 0 j = true then some (D.lst (rgD 0 j)) else none) = some d := e3
      by_cases h : rgOk 0 j = true
      · rw [if_pos h] at e3
        cases e3
        refine ⟨w, ρ, B, F, _, _, hK, hR, r, e1, fun v F1 H1 g1 b1 q1 => ⟨j, Bor.int q1, rgOk_ok h, fun p hp => ?_⟩⟩
        exact k _ F1 _ (g1.trans (Grow.laid g1.sub hp)) (b1.laid hp) (Res.back (m := .fr) g1 ⟨p, _, rfl, b1.new hp, hp, free_of g1.sub hp, upd_same, .lst (rgD_den 0 j)⟩)
      · rw [if_neg h] at e3
        cases e3
    | _ => cases e3
def mergeD (kvs more : List (Key × D)) : List (Key × D) := more.foldl (fun acc q => putD acc q.1 q.2) kvs
theorem merge_den {z : Bs} {F : Hp} : ∀ {us : List (Key × V)} {kvs : List (Key × D)} {vs : List (Key × V)} {ds : List (Key × D)}, DenK z F us kvs → DenK z F vs ds → DenK z F (mergeK vs us) (mergeD ds kvs)
  | _, _, _, _, .nil, h => h
  | _, _, _, _, .cons (k := k) a r, h => by
    have q := merge_den r (h.put (k := k) a)
    exact q
theorem paired_mono {α β : Type} {P Q : α → β → Prop} (h : ∀ a b, P a b → Q a b) : ∀ {l : List α} {m : List β}, Paired P l m → Paired Q l m
  | _, _, .nil => .nil
  | _, _, .cons a r => .cons (h _ _ a) (paired_mono h r)
/-- {k: v, ..} -/
def xPairs : List (Ex × Ex) → Env → Bg → Option (List (Key × D) × Bg)
  | [], _, B => some ([], B)
  | (fk, fv) :: r, ρ, B => (fk ρ B).bind fun p => (fv ρ p.2).bind fun q => (keyOf p.1).bind fun k => (xPairs r ρ q.2).map fun s => ((k, q.1) :: s.1, s.2)
def xDisp (prs : List (Ex × Ex)) : Ex := fun ρ B => (xPairs prs ρ B).map fun p => (.dK (mergeD [] p.1), p.2)
theorem pairs_can {K : Kx} : ∀ (prs : List (Ex × Ex)) {w : Wd} {ρ : Env} {B B' : Bg} {F H : Hp} {σ : Sl} {kvs : List (Key × D)} {R : List (V × V) → Hp → Prop}, w.z.K = K → w.R.map (·.1) = ro → Rel w ow ρ B F H σ → xPairs prs ρ B = some (kvs, B') →
    (∀ (us : List (Key × V)) F' H', Grow w.z F H F' H' → BagAt w.z F' H' B' → DenK w.z F' us kvs → us.length = prs.length → R (us.map fun q => (kV q.1, q.2)) H') → tPairs (prs.map fun q => (canE K .st ow ro q.1, canE K .st ow ro q.2)) σ H R
  | [], w, ρ, B, B', F, H, σ, kvs, R, hK, hR, r, hf, k => by
    unfold xPairs at hf
    cases hf
    exact k [] F H (Grow.refl r.sub) r.bag .nil rfl
  | (fk, fv) :: prs, w, ρ, B, B', F, H, σ, kvs, R, hK, hR, r, hf, k => by
    unfold xPairs at hf
    rw [Option.bind_eq_some_iff] at hf
    obtain ⟨⟨x, B1⟩, e1, hf⟩ := hf
    rw [Option.bind_eq_some_iff] at hf
    obtain ⟨⟨y, B2⟩, e2, hf⟩ := hf
    rw [Option.bind_eq_some_iff] at hf
    obtain ⟨ky, e3, hf⟩ := hf
    rw [Option.map_eq_some_iff] at hf
    obtain ⟨⟨s, B3⟩, e4, hf⟩ := hf
    cases hf
    refine ⟨w, ρ, B, F, x, B1, hK, hR, r, e1, fun v1 F1 H1 g1 b1 q1 => ⟨w, ρ, B1, F1, y, B2, hK, hR, r.grow g1 b1, e2, fun v2 F2 H2 g2 b2 q2 => ?_⟩⟩
    refine pairs_can prs hK hR ((r.grow g1 b1).grow g2 b2) e4 fun us F3 H3 g3 b3 q3 hl => ?_
    have hk := key_den (H := H1) (.inl q1) e3
    subst hk
    exact k ((ky, v2) :: us) F3 H3 ((g1.trans g2).trans g3) b3 (.cons (Den.mono g3.le q2) q3) (congrArg (· + 1) hl)
theorem pv_disp {prs : List (Ex × Ex)} {keys : List (Option Expr)} {values : List Expr} (h : PPs X pos keys values (prs.map fun q => (canE X.kx .st ow ro q.1, canE X.kx .st ow ro q.2))) (hl : keys.length = values.length := by rfl) (h15 : prs.length ≤ 15 := by decide) (hlp : keys.length = prs.length := by rfl) (hall : keys.all (·.isSome) = true := by rfl) (h0 : keys ≠ [] := by exact fun z => nomatch z) :
    PV .fr ow ro X (.Dict keys values pos) (xDisp prs) :=
  PV.of (pe_disp h hall hl h0 (by rw [hlp]; exact h15)) fun w ρ B F H σ d B' hK hR r hf Q k => by
    unfold xDisp at hf
    rw [Option.map_eq_some_iff] at hf
    obtain ⟨⟨kvs, B1⟩, e1, hf⟩ := hf
    cases hf
    intro p hp
    have nb := r.bag.new hp
    refine pairs_can prs hK hR (r.grow (Grow.laid r.sub hp) (r.bag.laid hp)) e1 fun us F1 H1 g1 b1 q1 hus => ?_
    have hd : H1 p = some (.dK []) := g1.keep p _ nb upd_same
    have nf : F1 p = none := g1.nf p nb (free_of r.sub hp) (by rw [upd_same]; exact fun z => nomatch z)
    refine ⟨hd, us, rfl, by rw [hus]; exact h15, ?_⟩
    have g2 := ((Grow.laid (z := w.z) r.sub (o := .dK []) hp).trans g1)
    exact k _ F1 _ (g2.poke hp nf) (b1.poke nb) ⟨p, _, rfl, nb, hp, nf, upd_same, .dK (merge_den q1 .nil)⟩
theorem pv_dict0 : PV .fr ow ro X (.Dict [] [] pos) (xC (.dK [])) :=
  PV.of pe_dnewK fun w ρ B F H σ d B' hK hR r hf Q k => by
    cases hf
    exact fun p hp => k _ F _ (Grow.laid r.sub hp) (r.bag.laid hp) ⟨p, _, rfl, r.bag.new hp, hp, free_of r.sub hp, upd_same, .dK .nil⟩
end
theorem Rel.change {w : Wd} {ow : Mk} {ρ : Env} {B : Bg} {F H : Hp} {σ : Sl} (r : Rel w ow ρ B F H σ) {i : Nat} {d d' : D} {a : Addr} {o o' : HO} (hi : isOw ow i) (hr : i ∉ w.R.map (·.1)) (he : ρ[i]? = some (some d)) (q : OwnAt w F H σ i d a o) (c : OwnC w.z F o' d') :
    Rel w ow (ρ.set i (some d')) B F (upd H a o') σ where
  gr := r.gr.poke q.new q.nf
  bag := r.bag.poke q.nb
  set := fun j e h1 h2 h3 => by
    rcases set_some h3 with ⟨z, _⟩ | ⟨_, h3⟩
    · exact absurd (z ▸ hi) h1
    · exact r.set j e h1 h2 h3
  own := fun j e h1 h2 h3 => by
    rcases set_some h3 with ⟨rfl, rfl⟩ | ⟨hj, h3⟩
    · exact ⟨a, o', q.sl, q.nb, q.nf, upd_same, c, q.new⟩
    · obtain ⟨a2, o2, q2⟩ := r.own j e h1 h2 h3
      have ne : a2 ≠ a := fun z => r.apart i j a d e hi h1 (fun z => hj z.symm) hr h2 he h3 q.sl (z ▸ q2.sl)
      exact ⟨a2, o2, q2.sl, q2.nb, q2.nf, by rw [upd_ne ne]; exact q2.at_, q2.c, q2.new⟩
  apart := fun j l a2 d2 e2 h1 h2 hjl h3 h4 h5 h6 => by
    have at_ : ∀ {x : Nat} {y : D}, (ρ.set i (some d'))[x]? = some (some y) → ∃ y', ρ[x]? = some (some y') := fun {x y} h => by
      rcases set_some h with ⟨rfl, _⟩ | ⟨_, h⟩
      · exact ⟨d, he⟩
      · exact ⟨y, h⟩
    obtain ⟨y1, h5⟩ := at_ h5
    obtain ⟨y2, h6⟩ := at_ h6
    exact r.apart j l a2 y1 y2 h1 h2 hjl h3 h4 h5 h6
  ro := fun p hp => by
    have k := r.ro p hp
    obtain ⟨o2, e, e1, h0, c2⟩ := k.c
    have ne : i ≠ p.1 := fun z => hr (z ▸ List.mem_map_of_mem hp)
    exact ⟨k.sl, k.nb, k.nf, o2, e, by rw [List.getElem?_set_ne ne]; exact e1, h0, c2⟩
  len := by rw [List.length_set]; exact r.len
theorem Rel.owns {w : Wd} {ow : Mk} {ρ : Env} {B : Bg} {F H : Hp} {σ : Sl} (r : Rel w ow ρ B F H σ) {i : Nat} {d : D} (hi : isOw ow i) (hr : i ∉ w.R.map (·.1)) (he : ρ[i]? = some (some d)) : ∃ a o, OwnAt w F H σ i d a o := r.own i d hi hr he
theorem OwnAt.grow {w : Wd} {F H F' H' : Hp} {σ : Sl} {i : Nat} {d : D} {a : Addr} {o : HO} (q : OwnAt w F H σ i d a o) (g : Grow w.z F H F' H') : OwnAt w F' H' σ i d a o :=
  ⟨q.sl, q.nb, g.nf a q.nb q.nf (by rw [q.at_]; exact fun z => nomatch z), g.keep a o q.nb q.at_, q.c.mono g.le, q.new⟩
theorem getD_some {α : Type} {l : List (Option α)} {i : Nat} {d : α} (h : l.getD i none = some d) : l[i]? = some (some d) := by
  rw [List.getD_eq_getElem?_getD] at h
  cases e : l[i]? with
  | none => rw [e] at h; cases h
  | some o =>
    rw [e] at h
    have h : o = some d := h
    rw [h]
section
variable {X : Cx} {ow owL : Mk} {ro : List Nat} {pos p apos : Pos} {e e2 : Expr} {f f2 : Ex} {x : Str}
/-- x.append(e) and its like: from the list in slot i and the argument -/
def sMut (i : Nat) (g : List D → D → Option (List D)) (f : Ex) : Sx := fun ρ B => (f ρ B).bind fun q => match ρ.getD i none with
  | some (.lst ds) => (g ds q.1).map fun es => (.nx (ρ.set i (some (.lst es))), q.2)
  | _ => none
theorem sMut_some {i : Nat} {g : List D → D → Option (List D)} {f : Ex} {ρ : Env} {B B' : Bg} {o : Out} (h : sMut i g f ρ B = some (o, B')) : ∃ ds y es, ρ[i]? = some (some (.lst ds)) ∧ f ρ B = some (y, B') ∧ g ds y = some es ∧ o = .nx (ρ.set i (some (.lst es))) := by
  unfold sMut at h
  rw [Option.bind_eq_some_iff] at h
  obtain ⟨⟨y, B1⟩, e1, h⟩ := h
  cases e0 : ρ.getD i none with
  | none => rw [e0] at h; cases h
  | some d =>
    cases d with
    | lst ds =>
      rw [e0] at h
      have h : ((g ds y).map fun es => (Out.nx (ρ.set i (some (.lst es))), B1)) = some (o, B') := h
      rw [Option.map_eq_some_iff] at h
      obtain ⟨es, e2, h⟩ := h
      cases h
      exact ⟨ds, y, es, getD_some e0, e1, e2, rfl⟩
    | _ => rw [e0] at h; cases h
def gApp : List D → D → Option (List D) := fun ds d => if ds.length < sizeLine then some (ds ++ [d]) else none
def gExt : List D → D → Option (List D) := fun ds d => match d with
  | .lst es => if ds.length + es.length ≤ sizeLine then some (ds ++ es) else none
  | _ => none
theorem v_app (i : Nat) (he : PV .st ow ro X e f) (hw : ow.getD i false = true := by rfl) (hr : i ∉ ro := by decide) (hN : X.N[i]? = some x := by rfl) (hv : Vis X.env.scope x := by first | exact Or.inl rfl | exact Or.inr (Or.inl rfl) | exact Or.inr (Or.inr rfl))
    (hd : (x == ("__debug__" : Str)) = false := by decide) (hcd : (x == ("__classdict__" : Str)) = false := by decide) (hsw : swapsWith (.Call (.Attribute (.Name x p) "append" apos) [e] [] pos) none pos.line X.env = pure false := by rfl)
    (hbase : attributeBase (.Name x p) "append" X.env (eval (.Name x p) X.env) = eval (.Name x p) X.env := by rfl)
    (hfew : ((backTo pos (starEach [e] X.env)).all (fun x => !x.1) && (backToKw pos (keywordEach [] X.env)).all (fun x => x.1.isSome) && decide (([e] : List Expr).length + ([] : List Keyword).length + (if ([] : List Keyword).isEmpty then 0 else 1) < 30)) = true := by rfl)
    (hline : (apos.endLine == pos.line) = true := by rfl) (hs : starEach [e] X.env = (false, eval e X.env) :: starEach [] X.env := by rfl) (hplain : (backTo pos (starEach [] X.env)).any (·.1) = false := by rfl) :
    PVS ow ow owL ro X (.Expr (.Call (.Attribute (.Name x p) "append" apos) [e] [] pos) pos) (sMut i gApp f) :=
  PVS.of (ps_expr (pe_bm PySem.F.plainAttrs_list PySem.F.slot_list_append PySem.F.type_list_append mt_append (pe_var hN hv hd hcd) (pa_cons he pa_nil hs) hbase hfew hline hs hplain) hsw) fun w ρ B F H σ o B' hK hR r hg E k => by
    obtain ⟨ds, y, es, e0, e1, e2, rfl⟩ := sMut_some hg
    have hri : i ∉ w.R.map (·.1) := hR ▸ hr
    obtain ⟨a, u, q⟩ := r.owns hw hri e0
    cases q.c with
    | lst hds =>
      refine ⟨.ref a, q.sl, .inl ⟨rfl, _, SqL.of q.at_⟩, w, ρ, B, F, y, _, hK, hR, r, e1, fun v F1 H1 g1 b1 q1 => ?_⟩
      unfold gApp at e2
      by_cases hl : ds.length < sizeLine
      · rw [if_pos hl] at e2
        cases e2
        have q' := q.grow g1
        exact ⟨a, _, v, rfl, rfl, q'.at_, by rw [hds.length]; exact hl, k F1 _ σ ((r.grow g1 b1).change hw hri e0 q' (.lst ((hds.mono g1.le).append (.one q1))))⟩
      · rw [if_neg hl] at e2
        cases e2
theorem v_ext (i : Nat) (he : PV .bo ow ro X e f) (hw : ow.getD i false = true := by rfl) (hr : i ∉ ro := by decide) (hN : X.N[i]? = some x := by rfl) (hv : Vis X.env.scope x := by first | exact Or.inl rfl | exact Or.inr (Or.inl rfl) | exact Or.inr (Or.inr rfl))
    (hd : (x == ("__debug__" : Str)) = false := by decide) (hcd : (x == ("__classdict__" : Str)) = false := by decide) (hsw : swapsWith (.Call (.Attribute (.Name x p) "extend" apos) [e] [] pos) none pos.line X.env = pure false := by rfl)
    (hbase : attributeBase (.Name x p) "extend" X.env (eval (.Name x p) X.env) = eval (.Name x p) X.env := by rfl)
    (hfew : ((backTo pos (starEach [e] X.env)).all (fun x => !x.1) && (backToKw pos (keywordEach [] X.env)).all (fun x => x.1.isSome) && decide (([e] : List Expr).length + ([] : List Keyword).length + (if ([] : List Keyword).isEmpty then 0 else 1) < 30)) = true := by rfl)
    (hline : (apos.endLine == pos.line) = true := by rfl) (hs : starEach [e] X.env = (false, eval e X.env) :: starEach [] X.env := by rfl) (hplain : (backTo pos (starEach [] X.env)).any (·.1) = false := by rfl) :
    PVS ow ow owL ro X (.Expr (.Call (.Attribute (.Name x p) "extend" apos) [e] [] pos) pos) (sMut i gExt f) :=
  PVS.of (ps_expr (pe_bm PySem.F.plainAttrs_list PySem.F.slot_list_extend PySem.F.type_list_extend mt_extend (pe_var hN hv hd hcd) (pa_cons he pa_nil hs) hbase hfew hline hs hplain) hsw) fun w ρ B F H σ o B' hK hR r hg E k => by
    obtain ⟨ds, y, es, e0, e1, e2, rfl⟩ := sMut_some hg
    have hri : i ∉ w.R.map (·.1) := hR ▸ hr
    obtain ⟨a, u, q⟩ := r.owns hw hri e0
    cases q.c with
    | lst hds =>
      refine ⟨.ref a, q.sl, .inl ⟨rfl, _, SqL.of q.at_⟩, w, ρ, B, F, y, _, hK, hR, r, e1, fun v F1 H1 g1 b1 q1 => ?_⟩
      cases y with
      | lst zs =>
        have e2 : (if ds.length + zs.length ≤ sizeLine then some (ds ++ zs) else none) = some es := e2
        by_cases hl : ds.length + zs.length ≤ sizeLine
        · rw [if_pos hl] at e2
          cases e2
          have q' := q.grow g1
          obtain ⟨c, vs, rfl, hc, dc⟩ := Bor.lst g1.sub q1
          exact ⟨a, c, _, vs, rfl, rfl, q'.at_, hc, by rw [hds.length, dc.length]; exact hl, k F1 _ σ ((r.grow g1 b1).change hw hri e0 q' (.lst ((hds.mono g1.le).append dc)))⟩
        · rw [if_neg hl] at e2
          cases e2
      | _ => cases e2
/-- x.insert(k, e) -/
def sIns (i : Nat) (fk f : Ex) : Sx := fun ρ B => (fk ρ B).bind fun q => (f ρ q.2).bind fun s => match ρ.getD i none, q.1 with
  | some (.lst ds), .int k => if ds.length < sizeLine ∧ 0 ≤ k ∧ k < 2 ^ 63 then some (.nx (ρ.set i (some (.lst (ds.take k.toNat ++ [s.1] ++ ds.drop k.toNat)))), s.2) else none
  | _, _ => none
theorem v_ins (i : Nat) (he : PV .bo ow ro X e f) (he2 : PV .st ow ro X e2 f2) (hw : ow.getD i false = true := by rfl) (hr : i ∉ ro := by decide) (hN : X.N[i]? = some x := by rfl) (hv : Vis X.env.scope x := by first | exact Or.inl rfl | exact Or.inr (Or.inl rfl) | exact Or.inr (Or.inr rfl))
    (hd : (x == ("__debug__" : Str)) = false := by decide) (hcd : (x == ("__classdict__" : Str)) = false := by decide) (hsw : swapsWith (.Call (.Attribute (.Name x p) "insert" apos) [e, e2] [] pos) none pos.line X.env = pure false := by rfl)
    (hbase : attributeBase (.Name x p) "insert" X.env (eval (.Name x p) X.env) = eval (.Name x p) X.env := by rfl)
    (hfew : ((backTo pos (starEach [e, e2] X.env)).all (fun x => !x.1) && (backToKw pos (keywordEach [] X.env)).all (fun x => x.1.isSome) && decide (([e, e2] : List Expr).length + ([] : List Keyword).length + (if ([] : List Keyword).isEmpty then 0 else 1) < 30)) = true := by rfl)
    (hline : (apos.endLine == pos.line) = true := by rfl) (hs : starEach [e, e2] X.env = (false, eval e X.env) :: starEach [e2] X.env := by rfl) (hs2 : starEach [e2] X.env = (false, eval e2 X.env) :: starEach [] X.env := by rfl) (hplain : (backTo pos (starEach [e2] X.env)).any (·.1) = false := by rfl) :
    PVS ow ow owL ro X (.Expr (.Call (.Attribute (.Name x p) "insert" apos) [e, e2] [] pos) pos) (sIns i f f2) :=
  PVS.of (ps_expr (pe_bm PySem.F.plainAttrs_list PySem.F.slot_list_insert PySem.F.type_list_insert mt_insert (pe_var hN hv hd hcd) (pa_cons he (pa_cons he2 pa_nil hs2) hs) hbase hfew hline hs hplain) hsw) fun w ρ B F H σ o B' hK hR r hg E k => by
    unfold sIns at hg
    rw [Option.bind_eq_some_iff] at hg
    obtain ⟨⟨y, B1⟩, e1, hg⟩ := hg
    rw [Option.bind_eq_some_iff] at hg
    obtain ⟨⟨t, B2⟩, e3, hg⟩ := hg
    cases e0 : ρ.getD i none with
    | none => rw [e0] at hg; cases hg
    | some d =>
      cases d with
      | lst ds =>
        cases y with
        | int n =>
          rw [e0] at hg
          have hg : (if ds.length < sizeLine ∧ 0 ≤ n ∧ n < 2 ^ 63 then some (Out.nx (ρ.set i (some (.lst (ds.take n.toNat ++ [t] ++ ds.drop n.toNat)))), B2) else none) = some (o, B') := hg
          by_cases hl : ds.length < sizeLine ∧ 0 ≤ n ∧ n < 2 ^ 63
          · rw [if_pos hl] at hg
            cases hg
            have e0 := getD_some e0
            have hri : i ∉ w.R.map (·.1) := hR ▸ hr
            obtain ⟨a, u, q⟩ := r.owns hw hri e0
            cases q.c with
            | lst hds =>
              refine ⟨.ref a, q.sl, .inl ⟨rfl, _, SqL.of q.at_⟩, w, ρ, B, F, _, _, hK, hR, r, e1, fun v F1 H1 g1 b1 q1 => ⟨w, ρ, _, F1, _, _, hK, hR, r.grow g1 b1, e3, fun v2 F2 H2 g2 b2 q2 => ?_⟩⟩
              have g := g1.trans g2
              have q' := q.grow g
              exact ⟨a, _, n, v2, rfl, by rw [Bor.int q1], q'.at_, by rw [hds.length]; exact hl.1, hl.2.1, hl.2.2, k F2 _ σ ((r.grow g b2).change hw hri e0 q' (.lst ((((hds.mono g.le).take _).append (.one q2)).append ((hds.mono g.le).drop _))))⟩
          · rw [if_neg hl] at hg
            cases hg
        | _ => rw [e0] at hg; cases hg
      | _ => rw [e0] at hg; cases hg
/-- x[k] = e, of a list, of a dict -/
def gSetI : D → D → D → Option D := fun o y d => match o, y with
  | .lst ds, .int k => (ixN ds.length k).map fun j => .lst (ds.set j d)
  | .dK kvs, y => (keyOf y).bind fun k => if kvs.length < sizeLine then some (.dK (putD kvs k d)) else none
  | _, _ => none
def sSetI (i : Nat) (fk f : Ex) : Sx := fun ρ B => (f ρ B).bind fun q => (fk ρ q.2).bind fun s => (ρ.getD i none).bind fun o => (gSetI o s.1 q.1).map fun d => (.nx (ρ.set i (some d)), s.2)
theorem ps_or {X : Cx} {s : Stmt} {t u : TS} (h : PS X s t) (h' : PS X s u) : PS X s (fun E σ H => t E σ H ∨ u E σ H) := ⟨fun pins s σ H R I q => q.elim (h.run pins s σ H R I) (h'.run pins s σ H R I)⟩
theorem v_seti (i : Nat) {ek : Expr} {fk : Ex} {spos : Pos} (hu : X.A.units + 1 < cLine) (hk : PV .bo ow ro X ek fk) (he : PV .st ow ro X e f) (hw : ow.getD i false = true := by rfl) (hr : i ∉ ro := by decide) (hN : X.N[i]? = some x := by rfl)
    (hv : Vis X.env.scope x := by first | exact Or.inl rfl | exact Or.inr (Or.inl rfl) | exact Or.inr (Or.inr rfl)) (hd : (x == ("__debug__" : Str)) = false := by decide) (hcd : (x == ("__classdict__" : Str)) = false := by decide)
    (ha : ∀ v, assign (.Subscript (.Name x p) ek spos) X.env v = (do
      let ov ← holding [v] (eval (.Name x p) X.env)
      let iv ← holding [v, ov] (eval ek X.env)
      standAt spos
      holding [v, ov, iv] (setItem ov iv v)
      release [v, ov, iv] []) := by intro _; rfl) (hs : swapsWithSole [.Subscript (.Name x p) ek spos] e pos.line X.env = pure false := by rfl) (hsw : swappedStores [.Subscript (.Name x p) ek spos] e X.env = pure none := by rfl)
    (h1 : (assignEach [.Subscript (.Name x p) ek spos] X.env).map (·.2) = [assign (.Subscript (.Name x p) ek spos) X.env] := by rfl) : PVS ow ow owL ro X (.Assign [.Subscript (.Name x p) ek spos] e pos) (sSetI i fk f) :=
  PVS.of (ps_or (ps_asg he (pg_sub (pe_var hN hv hd hcd) hk set_list ha) hs hsw h1) (ps_asg he (pg_sub (pe_var hN hv hd hcd) hk (set_dict hu) ha) hs hsw h1)) fun w ρ B F H σ o B' hK hR r hg E k => by
    unfold sSetI at hg
    rw [Option.bind_eq_some_iff] at hg
    obtain ⟨⟨y, B1⟩, e1, hg⟩ := hg
    rw [Option.bind_eq_some_iff] at hg
    obtain ⟨⟨t, B2⟩, e3, hg⟩ := hg
    rw [Option.bind_eq_some_iff] at hg
    obtain ⟨od, e0, hg⟩ := hg
    rw [Option.map_eq_some_iff] at hg
    obtain ⟨d', e4, hg⟩ := hg
    cases hg
    have e0 := getD_some e0
    have hri : i ∉ w.R.map (·.1) := hR ▸ hr
    obtain ⟨a, u, q⟩ := r.owns hw hri e0
    cases q.c with
    | lst hds =>
      cases t with
      | int n =>
        have e4 : ((ixN _ n).map fun j => D.lst (List.set _ j y)) = some d' := e4
        rw [Option.map_eq_some_iff] at e4
        obtain ⟨j, e5, e4⟩ := e4
        subst e4
        refine .inl ⟨w, ρ, B, F, y, B1, hK, hR, r, e1, fun v F1 H1 g1 b1 q1 => ⟨.ref a, q.sl, w, ρ, B1, F1, _, _, hK, hR, r.grow g1 b1, e3, fun v2 F2 H2 g2 b2 q2 => ?_⟩⟩
        have g := g1.trans g2
        have q' := q.grow g
        exact ⟨a, _, n, j, rfl, Bor.int q2, q'.at_, by rw [hds.length]; exact e5, k F2 _ σ ((r.grow g b2).change hw hri e0 q' (.lst ((hds.mono g.le).set (Den.mono g2.le q1) j)))⟩
      | _ => cases e4
    | dK hds =>
      have e4 : ((keyOf t).bind fun k => if _ < sizeLine then some (D.dK (putD _ k y)) else none) = some d' := e4
      rw [Option.bind_eq_some_iff] at e4
      obtain ⟨ky, e5, e4⟩ := e4
      split at e4
      · rename_i hl
        cases e4
        refine .inr ⟨w, ρ, B, F, y, B1, hK, hR, r, e1, fun v F1 H1 g1 b1 q1 => ⟨.ref a, q.sl, w, ρ, B1, F1, _, _, hK, hR, r.grow g1 b1, e3, fun v2 F2 H2 g2 b2 q2 => ?_⟩⟩
        have g := g1.trans g2
        have q' := q.grow g
        have hk := key_den q2 e5
        subst hk
        exact ⟨a, _, rfl, DPut.k q'.at_ (by rw [hds.length]; exact hl), k F2 _ σ ((r.grow g b2).change hw hri e0 q' (.dK ((hds.mono g.le).put (Den.mono g2.le q1))))⟩
      · cases e4
    | dT hds => cases e4
/-- x += e of a settled slot -/
def sAug (i : Nat) (g : D → D → Option D) (f : Ex) : Sx := fun ρ B => (ρ.getD i none).bind fun x => (f ρ B).bind fun q => (g x q.1).map fun d => (.nx (ρ.set i (some d)), q.2)
theorem v_augI (i : Nat) {op : Operator} {h : Int → Int → Int} (nd : X.N.Nodup) (ho : PIp X op (ipI h)) (he : PV .bo ow ro X e f) (hw : ow.getD i false = false := by rfl) (hr : i ∉ ro := by decide) (hN : X.N[i]? = some x := by rfl) (hx : Loc X.env.scope x := by first | exact Or.inl rfl | exact Or.inr rfl)
    (hf : X.fn x = true ∨ X.env.scope.names.lookup x = some .local := by first | exact Or.inl rfl | exact Or.inr rfl) : PVS ow ow owL ro X (.AugAssign (.Name x p) op e pos) (sAug i (gInt2 h) f) :=
  PVS.of (ps_aug nd hN hx he ho hf) fun w ρ B F H σ o B' hK hR r hg E k => by
    unfold sAug at hg
    rw [Option.bind_eq_some_iff] at hg
    obtain ⟨x0, e0, hg⟩ := hg
    rw [Option.bind_eq_some_iff] at hg
    obtain ⟨⟨y, B1⟩, e1, hg⟩ := hg
    rw [Option.map_eq_some_iff] at hg
    obtain ⟨d, e2, hg⟩ := hg
    cases hg
    have e0 := getD_some e0
    have hri : i ∉ w.R.map (·.1) := hR ▸ hr
    obtain ⟨v, es, q⟩ := r.set i x0 (notow hw) hri e0
    refine ⟨v, es, w, ρ, B, F, y, _, hK, hR, r, e1, fun v1 F1 H1 g1 b1 q1 => ?_⟩
    cases x0 with
    | int n =>
      cases y with
      | int l =>
        cases e2
        exact ⟨n, l, Bor.int (F := F) (H := H) (.inl q), Bor.int q1, k F1 H1 _ (((r.grow g1 b1).put hri (.int _)).mask (off_same hw))⟩
      | _ => cases e2
    | _ => cases e2
end
end DL
namespace DL
open PySem PySem.Spec PyProof.Rows L2
def fnOf (n np : Nat) (g : Sx) : Fn := fun ds B => if ds.length = np then
    match g (ds.map some ++ List.replicate (n - np) none) B with
    | some (.rt d, B') => some (d, B')
    | some (.nx _, B') => some (.non, B')
    | _ => none
  else none
theorem off_all {n i : Nat} : ¬ isOw (List.replicate n false) i := by
  intro h
  have h : (List.replicate n false).getD i false = true := h
  rw [List.getD_eq_getElem?_getD, List.getElem?_replicate] at h
  split at h <;> cases h
theorem start_rel {z : Bs} {F H : Hp} {B : Bg} {vs : List V} {ds : List D} {N : List Str} (s : Same F H) (bg : BagAt z F H B) (hd : Dens z F vs ds) : Rel { z := z, R := [], F0 := F, H0 := H } (List.replicate N.length false) (ds.map some ++ List.replicate (N.length - ds.length) none) B F H (L2.start N vs) where
  gr := Grow.refl s
  bag := bg
  set := fun i d _ _ h => by
    unfold L2.start
    by_cases hi : i < ds.length
    · rw [List.getElem?_append_left (by rw [List.length_map]; exact hi), List.getElem?_map] at h
      rw [List.getElem?_append_left (by rw [List.length_map, hd.length]; exact hi), List.getElem?_map]
      cases e : ds[i]? with
      | none => rw [e] at h; cases h
      | some d' =>
        rw [e] at h
        cases h
        obtain ⟨v, e1, e2⟩ := hd.get e
        exact ⟨v, by rw [e1]; rfl, e2⟩
    · rw [List.getElem?_append_right (by rw [List.length_map]; omega), List.getElem?_replicate] at h
      split at h <;> cases h
  own := fun i d h => absurd h off_all
  apart := fun i j a d e h => absurd h off_all
  ro := fun p hp => nomatch hp
  len := by
    unfold L2.start
    rw [List.length_append, List.length_append, List.length_map, List.length_map, List.length_replicate, List.length_replicate, hd.length]
theorem fnv_of {P : Program} {w : World} {K : PySem.W.Frag} {mg : Str → Option Value} {base : Heap} {k : Nat} {x qual : Str} {st : Stmt} {f : Addr} {fd : FuncData} {N ps : List Str} {g : Sx} {ow owL : Mk} (F : Fun K x qual st f fd) (S : FnScope N ps (defScope st))
    (hb : ∀ (cdv : Value) (A : Around) (outer : List PySem.Env) (s : Shared) (H : Hp), Room k (A.deeper (envOfC qual (defScope st) s.heap.objs.size f cdv)) → A.guards = some [] →
      PVSs (List.replicate N.length false) ow owL [] (cxOf CX0 P w K mg base N qual (defScope st) f cdv A outer s H E0).nox (defBody st) g) : FnG P w K mg base (k + 1) f fd ps (spV ⟨K, P, w⟩ ps.length (fnOf N.length ps.length g)) := by
  refine fn_ofG F S (fun vs H Q E h => ?_) (fun cdv A outer s H vs Q hr hg h => ?_)
  · obtain ⟨z, F, B, ds, d, B', _, hl, _⟩ := h
    exact hl
  · obtain ⟨z, F, B, ds, d, B', hK, hl, hs, bg, hd, hf, q⟩ := h
    refine ⟨_, hb cdv A outer s H hr hg, ?_⟩
    have hdl : ds.length = ps.length := hd.length.symm.trans hl
    unfold fnOf at hf
    rw [if_pos hdl, ← hdl] at hf
    cases e : g (ds.map some ++ List.replicate (N.length - ds.length) none) B with
    | none => rw [e] at hf; cases hf
    | some r =>
      obtain ⟨o, B1⟩ := r
      rw [e] at hf
      refine ⟨{ z := z, R := [], F0 := F, H0 := H }, _, B, F, o, B1, hK, rfl, start_rel hs bg hd, e, ?_⟩
      cases o with
      | rt d' =>
        cases hf
        exact fun F' H' v g1 b1 q1 => q v F' H' g1 b1 q1
      | nx ρ' =>
        cases hf
        exact fun F' H' σ' r' => q .non F' H' r'.gr r'.bag .non
      | bk _ => cases hf
      | ct _ => cases hf
inductive Bk where
  | k0 | k1 | k2
def Bk.i : Bk → Int
  | .k0 => 0
  | .k1 => 1
  | .k2 => 2
def Bk.n : Bk → Nat
  | .k0 => 0
  | .k1 => 1
  | .k2 => 2
def Bg.at_ (B : Bg) : Bk → Int
  | .k0 => B.c0
  | .k1 => B.c1
  | .k2 => B.c2
def Bg.put (B : Bg) : Bk → Int → Bg
  | .k0, v => { B with c0 := v }
  | .k1, v => { B with c1 := v }
  | .k2, v => { B with c2 := v }
def isBag : Option D → Bool
  | some .bag => true
  | _ => false
def xBag (i : Nat) (k : Bk) : Ex := fun ρ B => if isBag (ρ.getD i none) then some (.int (B.at_ k), B) else none
def xCells (i : Nat) : Ex := fun ρ B => if isBag (ρ.getD i none) then some (.lst (B.cs.map D.int), B) else none
def sBag (i : Nat) (k : Bk) (f : Ex) : Sx := fun ρ B => if isBag (ρ.getD i none) then (f ρ B).bind fun p => match p.1 with
    | .int v => some (.nx ρ, p.2.put k v)
    | _ => none
  else none
theorem isBag_some {ρ : Env} {i : Nat} (h : isBag (ρ.getD i none) = true) : ρ[i]? = some (some .bag) := by
  cases e : ρ.getD i none with
  | none => rw [e] at h; cases h
  | some d =>
    rw [e] at h
    cases d with
    | bag => exact getD_some e
    | _ => cases h
section
variable {X : Cx} {ow owL : Mk} {ro : List Nat} {pos p q : Pos} {e : Expr} {f : Ex} {x : Str} {j : Nat}
theorem bag_at {w : Wd} {ρ : Env} {B : Bg} {F H : Hp} {σ : Sl} (r : Rel w ow ρ B F H σ) {i : Nat} (hw : ow.getD i false = false) (hr : i ∉ w.R.map (·.1)) (h : isBag (ρ.getD i none) = true) : σ[i]? = some (some (.ref w.z.b)) := by
  obtain ⟨v, e, d⟩ := r.set i .bag (notow hw) hr (isBag_some h)
  cases d
  exact e
theorem pv_bag (i : Nat) (k : Bk) {m : Int} (hw : ow.getD i false = false := by rfl) (hr : i ∉ ro := by decide) (hN : X.N[i]? = some x := by rfl) (hm : m = k.i := by rfl) (hv : Vis X.env.scope x := by first | exact Or.inl rfl | exact Or.inr (Or.inl rfl) | exact Or.inr (Or.inr rfl))
    (hd : (x == ("__debug__" : Str)) = false := by decide) (hcd : (x == ("__classdict__" : Str)) = false := by decide) : PV .st ow ro X (.Subscript (.Name x p) (.Constant (.int m) j q) pos) (xBag i k) :=
  PV.of (pe_ix ix_list (pe_var hN hv hd hcd) pe_int (fun _ _ => rfl)) fun w ρ B F H σ d B' hK hR r hf Q kk => by
    unfold xBag at hf
    by_cases h : isBag (ρ.getD i none) = true
    · rw [if_pos h] at hf
      cases hf
      obtain ⟨_, hb, _⟩ := r.bag
      refine ⟨_, bag_at r hw (hR ▸ hr) h, w.z.b, _, m, .int (B.at_ k), rfl, rfl, SqL.of hb, ?_, kk _ F H (Grow.refl r.sub) r.bag (.int _)⟩
      subst hm
      cases k <;> rfl
    · rw [if_neg h] at hf
      cases hf
theorem pv_cells (i : Nat) (hw : ow.getD i false = false := by rfl) (hr : i ∉ ro := by decide) (hN : X.N[i]? = some x := by rfl) (hv : Vis X.env.scope x := by first | exact Or.inl rfl | exact Or.inr (Or.inl rfl) | exact Or.inr (Or.inr rfl))
    (hd : (x == ("__debug__" : Str)) = false := by decide) (hcd : (x == ("__classdict__" : Str)) = false := by decide) : PV .st ow ro X (.Subscript (.Name x p) (.Constant (.int 3) j q) pos) (xCells i) :=
  PV.of (pe_ix ix_list (pe_var hN hv hd hcd) pe_int (fun _ _ => rfl)) fun w ρ B F H σ d B' hK hR r hf Q kk => by
    unfold xCells at hf
    by_cases h : isBag (ρ.getD i none) = true
    · rw [if_pos h] at hf
      cases hf
      obtain ⟨_, hb, hl⟩ := r.bag
      exact ⟨_, bag_at r hw (hR ▸ hr) h, w.z.b, _, 3, .ref w.z.l, rfl, rfl, SqL.of hb, rfl, kk _ F H (Grow.refl r.sub) r.bag (.lst hl (Dens.ints_mk _))⟩
    · rw [if_neg h] at hf
      cases hf
theorem Rel.bagset {w : Wd} {ρ : Env} {B : Bg} {F H : Hp} {σ : Sl} (r : Rel w ow ρ B F H σ) (hl : H w.z.b = some (.lst [.int B.c0, .int B.c1, .int B.c2, .ref w.z.l])) (hc : F w.z.l = some (.lst (B.cs.map V.int))) (k : Bk) (v : Int) :
    Rel w ow ρ (B.put k v) F (upd H w.z.b (.lst ([V.int B.c0, .int B.c1, .int B.c2, .ref w.z.l].set k.n (.int v)))) σ where
  gr := ⟨r.gr.le, fun c u e => by
    rw [upd_ne (fun z => by
      rw [z, r.bag.1] at e
      cases e)]
    exact r.gr.sub c u e, fun c u hc' e => by
    rw [upd_ne hc']
    exact r.gr.keep c u hc' e, r.gr.nf⟩
  bag := ⟨r.bag.1, by rw [upd_same]; cases k <;> rfl, by cases k <;> exact hc⟩
  set := r.set
  own := fun i d h1 h2 h3 => by
    obtain ⟨a, o, q⟩ := r.own i d h1 h2 h3
    exact ⟨a, o, q.sl, q.nb, q.nf, by rw [upd_ne q.nb]; exact q.at_, q.c, q.new⟩
  apart := r.apart
  ro := fun p hp => let q := r.ro p hp; ⟨q.sl, q.nb, q.nf, q.c⟩
  len := r.len
theorem Bk.ix {k : Bk} {a b c d : V} : ixN [a, b, c, d].length k.i = some k.n := by cases k <;> rfl
theorem v_bag (i : Nat) (k : Bk) {m : Int} {spos : Pos} (he : PV .st ow ro X e f) (hw : ow.getD i false = false := by rfl) (hr : i ∉ ro := by decide) (hm : m = k.i := by rfl) (hN : X.N[i]? = some x := by rfl) (hv : Vis X.env.scope x := by first | exact Or.inl rfl | exact Or.inr (Or.inl rfl) | exact Or.inr (Or.inr rfl))
    (hd : (x == ("__debug__" : Str)) = false := by decide) (hcd : (x == ("__classdict__" : Str)) = false := by decide)
    (ha : ∀ v, assign (.Subscript (.Name x p) (.Constant (.int m) j q) spos) X.env v = (do
      let ov ← holding [v] (eval (.Name x p) X.env)
      let iv ← holding [v, ov] (eval (.Constant (.int m) j q) X.env)
      standAt spos
      holding [v, ov, iv] (setItem ov iv v)
      release [v, ov, iv] []) := by intro _; rfl) (hs : swapsWithSole [.Subscript (.Name x p) (.Constant (.int m) j q) spos] e pos.line X.env = pure false := by rfl) (hsw : swappedStores [.Subscript (.Name x p) (.Constant (.int m) j q) spos] e X.env = pure none := by rfl)
    (h1 : (assignEach [.Subscript (.Name x p) (.Constant (.int m) j q) spos] X.env).map (·.2) = [assign (.Subscript (.Name x p) (.Constant (.int m) j q) spos) X.env] := by rfl) : PVS ow ow owL ro X (.Assign [.Subscript (.Name x p) (.Constant (.int m) j q) spos] e pos) (sBag i k f) :=
  PVS.of (ps_asg he (pg_sub (pe_var hN hv hd hcd) pe_int set_list ha) hs hsw h1) fun w ρ B F H σ o B' hK hR r hg E kk => by
    unfold sBag at hg
    by_cases h : isBag (ρ.getD i none) = true
    · rw [if_pos h, Option.bind_eq_some_iff] at hg
      obtain ⟨⟨y, B1⟩, e1, hg⟩ := hg
      cases y with
      | int v =>
        cases hg
        refine ⟨w, ρ, B, F, _, _, hK, hR, r, e1, fun v1 F1 H1 g1 b1 q1 => ?_⟩
        have r1 := r.grow g1 b1
        obtain ⟨_, hb, hl⟩ := id r1.bag
        have ev := Bor.int (F := F1) (H := H1) (.inl q1)
        subst ev
        exact ⟨_, bag_at r hw (hR ▸ hr) h, w.z.b, _, m, k.n, rfl, rfl, hb, by rw [hm]; exact Bk.ix, kk F1 _ σ (r1.bagset hb hl k v)⟩
      | _ => cases hg
    · rw [if_neg h] at hg
      cases hg
/-- xs[k], read for x[k] op= e -/
theorem get_list : PGet X (fun o i H Q => ∃ p xs k v, o = .ref p ∧ i = .int k ∧ SqL X.kx H p xs ∧ 0 ≤ k ∧ k < 2 ^ 63 ∧ xs[k.toNat]? = some v ∧ Q v H) := by
  rintro pins s σ H o i ov iv Q I ro ri ⟨p, xs, k, v, rfl, rfl, hs, h0, h1, hv, q⟩
  cases ro
  obtain ⟨t, rfl⟩ := ri
  obtain ⟨its, r, pl, hz⟩ := I.list hs
  obtain ⟨u, e1, e2⟩ := r.get hv
  exact wpAny_getItem_list pl.isList h0 h1 (by simpa using e1) ⟨v, H, I, e2, q⟩
/-- bag[k] += e -/
def sBagAug (i : Nat) (k : Bk) (f : Ex) : Sx := fun ρ B => if isBag (ρ.getD i none) then (f ρ B).bind fun p => match p.1 with
    | .int v => some (.nx ρ, p.2.put k (B.at_ k + v))
    | _ => none
  else none
theorem v_bagAug (i : Nat) (k : Bk) {m : Int} {spos : Pos} (he : PV .st ow ro X e f) (hw : ow.getD i false = false := by rfl) (hr : i ∉ ro := by decide) (hm : m = k.i := by rfl) (hN : X.N[i]? = some x := by rfl) (hv : Vis X.env.scope x := by first | exact Or.inl rfl | exact Or.inr (Or.inl rfl) | exact Or.inr (Or.inr rfl))
    (hd : (x == ("__debug__" : Str)) = false := by decide) (hcd : (x == ("__classdict__" : Str)) = false := by decide)
    (ha : ∀ ov iv new, augStore (.Constant (.int m) j q) ov iv new = (do holding [new, ov, iv] (setItem ov iv new); release [new, ov, iv] []; pure .next) := by intros; rfl) : PVS ow ow owL ro X (.AugAssign (.Subscript (.Name x p) (.Constant (.int m) j q) spos) .Add e pos) (sBagAug i k f) :=
  PVS.of (ps_augS (pe_var hN hv hd hcd) pe_int get_list he ip_add set_list ha) fun w ρ B F H σ o B' hK hR r hg E kk => by
    unfold sBagAug at hg
    by_cases h : isBag (ρ.getD i none) = true
    · rw [if_pos h, Option.bind_eq_some_iff] at hg
      obtain ⟨⟨y, B1⟩, e1, hg⟩ := hg
      cases y with
      | int v =>
        cases hg
        obtain ⟨_, hb0, hl0⟩ := id r.bag
        refine ⟨_, bag_at r hw (hR ▸ hr) h, w.z.b, _, m, .int (B.at_ k), rfl, rfl, SqL.of hb0, ?_, ?_, ?_, w, ρ, B, F, _, _, hK, hR, r, e1, fun v1 F1 H1 g1 b1 q1 => ?_⟩
        · subst hm
          cases k <;> decide
        · subst hm
          cases k <;> decide
        · subst hm
          cases k <;> rfl
        have r1 := r.grow g1 b1
        obtain ⟨_, hb, hl⟩ := id r1.bag
        exact ⟨_, _, rfl, Bor.int (F := F1) (H := H1) (.inl q1), w.z.b, _, m, k.n, rfl, rfl, hb, by rw [hm]; exact Bk.ix, kk F1 _ σ (r1.bagset hb hl k _)⟩
      | _ => cases hg
    · rw [if_neg h] at hg
      cases hg
end
section
variable {X : Cx} {ow : Mk} {ro : List Nat} {pos apos : Pos} {a e : Expr} {fa f : Ex}
end
/-- the law's call, where its def is shown wherever no repr runs -/
theorem lawG {P : Program} {w : World} {K : PySem.W.Frag} {mg mb : Str → Option Value} {k : Nat} {fa a : Addr} {fd : FuncData} {x : Str} {sp : Sp} {s : Shared} {vs : List Value} {ns : List Int}
    (KX : K.In s.heap) (hns : s.heap.Ns mainGlobals mg) (hb : s.heap.Ns builtinsNs mb) (hbb : ∀ x : Str, x ≠ "__name__" → mb x = bootBuiltins x) (hlim : s.heap.NoLimit) (hg : s.gens = #[])
    (ha : s.heap.get? a = some { cls := .type "list", data := .seq vs.toArray }) (hi : IntsAre vs ns) (hl : ns.length ≤ sizeLine) (hr : Room k callerA)
    (F : ∀ base : Heap, K.In base → base.Ns mainGlobals mg → FnG P w K mg base k fa fd [x] sp) (hbind : ∀ (s : Shared) (u : Value), BindsTo s fd ⟨[u], []⟩ [(x, u)])
    (hsp : ∀ H : Hp, Only H → SqL K H a (ns.map V.int) → sp [.ref a] H (fun v _ => v = .bl true) E0) :
    codeAny (model P w) callerA (.call (.ref fa) ⟨[.ref a], []⟩) (fun r s' => r = .ok (.ret (.bool true)) ∧ OldK s.heap s'.heap ∧ s'.os = s.os ∧ AllBare s'.gens) s := by
  have go : ∀ H : Hp, Only H → SqL K H a (ns.map V.int) → HOk P w H s.heap → (∀ b, H b ≠ none → b = a) → (∀ b, H b ≠ none → K.lookup b = none) →
      codeAny (model P w) callerA (.call (.ref fa) ⟨[.ref a], []⟩) (fun r s' => r = .ok (.ret (.bool true)) ∧ OldK s.heap s'.heap ∧ s'.os = s.os ∧ AllBare s'.gens) s := by
    intro H hO hS hok hA hK
    have free : ∀ {b : Addr} {o : Obj}, s.heap.get? b = some o → (∀ l n, o.data ≠ .seq l n) → H b = none := by
      intro b o e d
      cases q : H b with
      | none => rfl
      | some u =>
        have eb : b = a := hA b (by rw [q]; exact fun z => nomatch z)
        rw [eb, ha] at e
        cases e
        exact absurd rfl (d _ _)
    have ns_ : ∀ {b : Addr} {m : Str → Option Value}, s.heap.Ns b m → (hidT s.heap H).Ns b m := by
      rintro b m ⟨o, es, ep, e, d, r⟩
      exact ⟨o, es, ep, hidT_get e (free e fun l n z => by rw [d] at z; cases z), d, r⟩
    have Kb : K.In (hidT s.heap H) := by
      intro b o e
      refine hidT_get (KX b o e) ?_
      cases q : H b with
      | none => rfl
      | some u =>
        rw [hK b (by rw [q]; exact fun z => nomatch z)] at e
        cases e
    have M : Mod K mg (hidT s.heap H) := ⟨Kb, ns_ hns, ⟨mb, ns_ hb, hbb⟩, by
      obtain ⟨mc, h1, h2⟩ := hlim
      exact ⟨mc, ns_ h1, h2⟩⟩
    have ev : Env0 P w K mg (hidT s.heap H) callerA [] s H := ⟨rfl, M, fun b o e => of_hidT e, Nat.le_of_eq (hidT_size _ _), trivial, fun b z => absurd (show b ∈ ([] : List Addr) from z) List.not_mem_nil, hok, .of_eq hg⟩
    have run := (F _ Kb (ns_ hns)).run callerA [] s H ⟨[.ref a], []⟩ [.ref a] [.ref a] _ hr rfl ev (hbind s (.ref a)) (.cons rfl .nil) (hsp H hO hS)
    refine codeAny_mono run fun r s' h => ?_
    match r, h with
    | .error e, h => exact False.elim h
    | .ok .next, h => exact False.elim h
    | .ok .brk, h => exact False.elim h
    | .ok .cont, h => exact False.elim h
    | .ok (.ret u), ⟨v, H', os, bare, un, hok', r', q⟩ =>
      have q : v = .bl true := q
      subst q
      cases r'
      refine ⟨rfl, OldK.of_keep fun b o e => ?_, os, bare⟩
      rcases hO b with z | ⟨ob, xs, z⟩
      · exact un.keep b o e z (fun q => absurd (show b ∈ ([] : List Addr) from q) List.not_mem_nil) List.not_mem_nil
      · obtain ⟨e1, _⟩ := hok b _ z
        obtain ⟨e2, _⟩ := hok' b _ (un.frzs b ob _ z)
        exact (e.symm.trans e1) ▸ e2
  have rv := vals_ints hi
  cases hk : K.lookup a with
  | some o =>
    have e := ha.symm.trans (KX a o hk)
    cases e
    exact go (fun _ => none) (fun _ => .inl rfl) (.inr ⟨_, vs.toArray, _, hk, rfl, rfl, rfl, by rw [List.size_toArray, hi.length]; exact hl, by simpa using rv⟩) (fun b u z => nomatch z) (fun b z => absurd rfl z) fun b z => absurd rfl z
  | none =>
    refine go (oneR a (.frz { cls := .type "list", data := .seq vs.toArray } (.lst (ns.map V.int)))) (fun b => ?_) (.inl (.inr ⟨_, oneR_at⟩)) (fun b u z => ?_) (fun b z => ?_) (fun b z => ?_)
    · by_cases h : b = a
      · subst h
        exact .inr ⟨_, _, oneR_at⟩
      · exact .inl (if_neg h)
    · obtain ⟨h1, h2⟩ := oneR_some z
      subst h1 h2
      exact ⟨ha, by rw [List.length_map]; exact hl, vs, _, rv, ha⟩
    · obtain ⟨u, e⟩ := some_of z
      exact (oneR_some e).1
    · obtain ⟨u, e⟩ := some_of z
      rw [(oneR_some e).1]
      exact hk
theorem walkG {l : PySem.W.OpenLaw} {n k : Nat} {q : Program} {loose : List Str} {XP : (Str → Option Value) → Heap → Prop} {YP : World → Heap → Prop} {d : DefRec} {K : Params → PySem.W.Frag} {sp : World → Sp} {x : Str}
    (hn : l.most = some n) (hn2 : n ≤ sizeLine) (hdf : d.params.defaults = []) (hr : Room k callerA) (hY : ∀ (w : World) (h : Heap), YP w h → (K w.params).In h)
    (F : ∀ (w : World) (mg : Str → Option Value) (fa : Addr) (h : Heap), (K w.params).In h → h.Ns mainGlobals mg → mg d.name = some (.ref fa) →
      ∃ fd : FuncData, (∀ (s : Shared) (u : Value), BindsTo s fd ⟨[u], []⟩ [(x, u)]) ∧ ∀ base : Heap, (K w.params).In base → base.Ns mainGlobals mg → FnG l.prog w (K w.params) mg base k fa fd [x] (sp w))
    (hsp : ∀ (w : World) (H : Hp) (a : Addr) (ns : List Int), ns.length ≤ n → Only H → SqL (K w.params) H a (ns.map V.int) → sp w [.ref a] H (fun v _ => v = .bl true) E0) :
    PySem.W.WalkO q loose XP YP l.row.toRowW d [] (fun f vs => PySem.call f vs) := by
  apply Att.attach_call hn hdf
  intro w s₀ s₁ mg mb fa o pm cd doc a vs ns G Y ho hd hcd hmg hobj hints hlen hg
  have KX := hY w _ Y
  obtain ⟨fd, hb, hF⟩ := F w mg fa _ KX G.T.g hmg
  exact lawG KX G.T.g G.T.b G.T.builtins G.T.nolimit hg hobj hints (Nat.le_trans hlen hn2) hr hF hb fun H hO hS => hsp w H a ns hlen hO hS
end DL
namespace DL
open PySem PySem.Spec PyProof.Rows L2
def gPow : D → D → Option D := fun x y => match x, y with
  | .int i, .int j => if 0 ≤ j ∧ j ≤ 1000000 ∧ i.natAbs < 2 ^ 64 then some (.int (i ^ j.toNat)) else none
  | _, _ => none
theorem ok_pow (K : Kx) : OpOk K .st (rI CPow fun i j => .int (i ^ j.toNat)) gPow := fun z F H B x y dx dy d hK s bg h1 h2 e Q k => by
  cases dx with
  | int i =>
    cases dy with
    | int j =>
      have e : (if 0 ≤ j ∧ j ≤ 1000000 ∧ i.natAbs < 2 ^ 64 then some (D.int (i ^ j.toNat)) else none) = some d := e
      by_cases hl : 0 ≤ j ∧ j ≤ 1000000 ∧ i.natAbs < 2 ^ 64
      · rw [if_pos hl] at e
        cases e
        exact ⟨i, j, Bor.int h1, Bor.int h2, hl, k _ F H (Grow.refl s) bg (.int _)⟩
      · rw [if_neg hl] at e
        cases e
    | _ => cases e
  | _ => cases e
/-- the same, with the numbers told -/
theorem fnv_by {P : Program} {w : World} {K : PySem.W.Frag} {mg : Str → Option Value} {base : Heap} {k : Nat} {x qual : Str} {st : Stmt} {f : Addr} {fd : FuncData} {N ps : List Str} (n np : Nat) (ow0 : Mk) {m : Fn} {g : Sx} {ow owL : Mk} (hm : m = fnOf n np g) (F : Fun K x qual st f fd) (S : FnScope N ps (defScope st)) (hn : N.length = n) (hp : ps.length = np) (ho : List.replicate n false = ow0)
    (hb : ∀ (cdv : Value) (A : Around) (outer : List PySem.Env) (s : Shared) (H : Hp), Room k (A.deeper (envOfC qual (defScope st) s.heap.objs.size f cdv)) → A.guards = some [] →
      PVSs ow0 ow owL [] (cxOf CX0 P w K mg base N qual (defScope st) f cdv A outer s H E0).nox (defBody st) g) : FnG P w K mg base (k + 1) f fd ps (spV ⟨K, P, w⟩ np m) := by
  subst hn
  subst hp
  subst ho
  subst hm
  exact fnv_of F S hb
section
variable {X : Cx} {ow : Mk} {ro : List Nat} {a b : Expr} {fa fb : Ex} {pos : Pos}
theorem pt_alt {e : Expr} {t u : TT} (h : PT X e t) (h' : PT X e u) : PT X e (fun σ H Q => t σ H Q ∨ u σ H Q) := ⟨fun pins s σ H Q I q => q.elim (h.run pins s σ H Q I) (h'.run pins s σ H Q I)⟩
theorem in_anyT (t : Bool) {op : CmpOp} (ho : OpR X (compareOp op) (rInA X.kx t)) {td : TE} (hd : PC X op a b td) (hdc : ∀ (w : Wd) (ρ : Env) (B : Bg) (F H : Hp) (σ : Sl) (kvs : List (Key × D)) (d dx : D) (B1 B' : Bg), w.z.K = X.kx → w.R.map (·.1) = ro → Rel w ow ρ B F H σ → fa ρ B = some (dx, B1) → fb ρ B1 = some (.dK kvs, B') →
    gInA t dx (.dK kvs) = some d → ∀ Q : VK, (∀ v F' H', Grow w.z F H F' H' → BagAt w.z F' H' B' → Den w.z F' v d → Q v H') → td σ H Q)
    (ha : PV .bo ow ro X a fa) (hb : PV .bo ow ro X b fb) (hm : behindInMarks op b = false) : PVT ow ro X (.Compare a [op] [b] pos) (x2 (gInA t) fa fb) :=
  PVT.of (pt_alt (pt_cmpR ho ha hb hm) (pt_cmp hd hm)) fun w ρ B F H σ j B' hK hR r hf Q k => by
    obtain ⟨dx, B1, dy, e1, e2, e3⟩ := x2_some hf
    by_cases nd : noDict dy = true
    · refine .inl ⟨w, ρ, B, F, dx, B1, hK, hR, r, e1, fun v1 F1 H1 g1 b1 q1 => ⟨w, ρ, B1, F1, dy, _, hK, hR, r.grow g1 b1, e2, fun v2 F2 H2 g2 b2 q2 => ?_⟩⟩
      obtain ⟨j', e4, q⟩ := ok_inA X.kx t hK g2.sub (Bor.grow q1 g2) q2 nd e3
      cases e4
      exact q _ ⟨j, rfl, k F2 H2 (g1.trans g2) b2⟩
    · cases dy with
      | dK kvs => exact .inr (hdc w ρ B F H σ kvs _ dx B1 B' hK hR r e1 e2 e3 _ fun v F' H' g b q => ⟨j, Bor.bl (H := H') (.inl q), k F' H' g b⟩)
      | _ => exact absurd rfl nd
theorem pt_in1 (hu : X.A.units + 65 < cLine) (ha : PV .bo ow ro X a fa) (hb : PV .bo ow ro X b fb) (hm : behindInMarks .In b = false := by rfl) : PVT ow ro X (.Compare a [.In] [b] pos) (x2 (gInA true) fa fb) :=
  in_anyT true (op_inA hu) (pc_din (by omega) ha hb) (fun w ρ B F H σ kvs d dx B1 B' hK hR r e1 e2 e3 Q k => by
    refine ⟨w, ρ, B, F, dx, B1, hK, hR, r, e1, fun v1 F1 H1 g1 b1 q1 => ⟨w, ρ, B1, F1, _, _, hK, hR, r.grow g1 b1, e2, fun v2 F2 H2 g2 b2 q2 => ?_⟩⟩
    obtain ⟨c, vs, rfl, hc, dc⟩ := Bor.dK g2.sub q2
    have e3 : ((keyOf dx).map fun k => D.bl ((valD kvs k).isSome)) = some d := e3
    rw [Option.map_eq_some_iff] at e3
    obtain ⟨ky, e4, rfl⟩ := e3
    have hk := key_den (Bor.grow q1 g2) e4
    subst hk
    refine ⟨c, valV vs ky, rfl, dget_r hc, ?_⟩
    have eq : (valV vs ky).isSome = (valD kvs ky).isSome := by
      cases h : valD kvs ky with
      | none =>
        rw [dc.valNone h]
        rfl
      | some d' =>
        obtain ⟨v, e5, _⟩ := dc.val h
        rw [e5]
        rfl
    rw [eq]
    exact k _ F2 H2 (g1.trans g2) b2 (.bl _)) ha hb hm
theorem pt_notIn1 (hu : X.A.units + 65 < cLine) (ha : PV .bo ow ro X a fa) (hb : PV .bo ow ro X b fb) (hm : behindInMarks .NotIn b = false := by rfl) : PVT ow ro X (.Compare a [.NotIn] [b] pos) (x2 (gInA false) fa fb) :=
  in_anyT false (op_notInA hu) (pc_dnotin (by omega) ha hb) (fun w ρ B F H σ kvs d dx B1 B' hK hR r e1 e2 e3 Q k => by
    refine ⟨w, ρ, B, F, dx, B1, hK, hR, r, e1, fun v1 F1 H1 g1 b1 q1 => ⟨w, ρ, B1, F1, _, _, hK, hR, r.grow g1 b1, e2, fun v2 F2 H2 g2 b2 q2 => ?_⟩⟩
    obtain ⟨c, vs, rfl, hc, dc⟩ := Bor.dK g2.sub q2
    have e3 : ((keyOf dx).map fun k => D.bl (!(valD kvs k).isSome)) = some d := e3
    rw [Option.map_eq_some_iff] at e3
    obtain ⟨ky, e4, rfl⟩ := e3
    have hk := key_den (Bor.grow q1 g2) e4
    subst hk
    refine ⟨c, valV vs ky, rfl, dget_r hc, ?_⟩
    have eq : (valV vs ky).isSome = (valD kvs ky).isSome := by
      cases h : valD kvs ky with
      | none =>
        rw [dc.valNone h]
        rfl
      | some d' =>
        obtain ⟨v, e5, _⟩ := dc.val h
        rw [e5]
        rfl
    rw [eq]
    exact k _ F2 H2 (g1.trans g2) b2 (.bl _)) ha hb hm
end
end DL
namespace DL
open PySem PySem.Spec PyProof.Rows L2
def absI (i : Int) : Int := if i < 0 then -i else i
def cellsOf (ns : List Int) : List Int := (ns.take 63).map absI
def spBag (K : PySem.W.Frag) : Sp := fun vs H Q _ => ∃ (a : Addr) (ns : List Int), vs = [.ref a] ∧ SqL K H a (ns.map V.int) ∧
  ∀ (p l : Addr) (H1 : Hp), Same H H1 → H p = none → p ≠ l → H1 p = some (.lst [.int 0, .int 1234567891, .int 0, .ref l]) → H1 l = some (.lst ((cellsOf ns).map V.int)) → Q (.ref p) H1
theorem cut63 (ns : List Int) : cutV (ns.map V.int) none (some 63) = (ns.take 63).map V.int := by
  unfold cutV
  rw [List.map_take]
  have e : HT.sIx (ns.map V.int).length 0 none = 0 := rfl
  rw [e, List.drop_zero, Nat.sub_zero]
  have e2 : HT.sIx (ns.map V.int).length (ns.map V.int).length (some 63) = min 63 (ns.map V.int).length := by
    rfl
  rw [e2]
  by_cases h : 63 ≤ (ns.map V.int).length
  · rw [Nat.min_eq_left h]
  · rw [Nat.min_eq_right (by omega), List.take_of_length_le (Nat.le_refl _), List.take_of_length_le (by omega)]
theorem abs_step {ms : List Int} {i : Nat} (h : i < ms.length) : ((ms.take (i + 1)).map absI).map V.int = ((ms.take i).map absI).map V.int ++ [V.int (absI ms[i])] := by
  rw [List.take_succ, List.getElem?_eq_getElem h, List.map_append, List.map_append]
  rfl
end DL
namespace DL
open PySem PySem.Spec PyProof.Rows L2
def bag0 (ns : List Int) : Bg := ⟨0, 1234567891, 0, cellsOf ns⟩
/-- what the law is handed, and that it answers True -/
def spLaw (K : PySem.W.Frag) : Sp := fun vs H Q _ => ∃ (a : Addr) (ns : List Int), vs = [.ref a] ∧ ns.length ≤ 63 ∧ SqL K H a (ns.map V.int) ∧ ∀ H', Q (.bl true) H'
theorem law_can {X : Cx} {g : Sx} {K : PySem.W.Frag} {n : Nat} {ow owL : Mk} {Q : VK} {a p l : Addr} {H1 : Hp} {ns : List Int} {B' : Bg} (hK : X.K = K)
    (hg : g (none :: some .bag :: List.replicate n none) (bag0 ns) = some (.rt (.bl true), B'))
    (hpl : p ≠ l) (e1 : H1 p = some (.lst [.int 0, .int 1234567891, .int 0, .ref l])) (e2 : H1 l = some (.lst ((cellsOf ns).map V.int))) (q : ∀ H', Q (.bl true) H') (nx : VK) :
    canS X.kx (List.replicate (n + 2) false) ow owL [] g { nx := fun _ H' => nx .non H', rt := Q } (some (.ref a) :: some (.ref p) :: List.replicate n none) H1 := by
  have hs : Same (oneR l (.lst ((cellsOf ns).map V.int))) H1 := fun c u e => by
    obtain ⟨rfl, rfl⟩ := oneR_some e
    exact e2
  refine ⟨⟨⟨p, l, X.kx⟩, [], oneR l (.lst ((cellsOf ns).map V.int)), H1⟩, _, _, oneR l (.lst ((cellsOf ns).map V.int)), _, _, rfl, rfl, ⟨Grow.refl hs, ⟨if_neg hpl, e1, oneR_at⟩, fun i d h1 h2 h3 => ?_, fun i d h => absurd h off_all, fun i j a d e h => absurd h off_all, fun p hp => (nomatch hp), ?_⟩, hg, fun F' H' v _ _ q1 => ?_⟩
  · match i with
    | 0 => cases h3
    | 1 =>
      cases h3
      exact ⟨_, rfl, .bag⟩
    | i + 2 =>
      have h3 : (List.replicate n (none : Option D))[i]? = some (some d) := h3
      rw [List.getElem?_replicate] at h3
      split at h3 <;> cases h3
  · show (List.replicate n (none : Option D)).length + 1 + 1 = (List.replicate n (none : Option V)).length + 1 + 1
    rw [List.length_replicate, List.length_replicate]
  · have e := q1
    cases e
    exact q H'
end DL
namespace DL
open PySem PySem.Spec PyProof.Rows L2
section
variable {ρ ρ1 : Env} {B B1 B2 : Bg} {d x y : D} {ds : List D} {f fa fb fc : Ex} {fs : Exs} {g h : Sx} {i : Nat}
theorem seq_nx {r : Option (Out × Bg)} (e : g ρ B = some (.nx ρ1, B1)) (e2 : h ρ1 B1 = r) : sSeq g h ρ B = r := by
  unfold sSeq
  rw [e]
  exact e2
theorem seq_rt (e : g ρ B = some (.rt d, B1)) : sSeq g h ρ B = some (.rt d, B1) := by
  unfold sSeq
  rw [e]
  rfl
theorem set_run (e : f ρ B = some (d, B1)) : sSet i f ρ B = some (.nx (ρ.set i (some d)), B1) := by
  unfold sSet
  rw [e]
  rfl
theorem ret_run (e : f ρ B = some (d, B1)) : sRet f ρ B = some (.rt d, B1) := by
  unfold sRet
  rw [e]
  rfl
theorem if_t {r : Option (Out × Bg)} (e : fc ρ B = some (.bl true, B1)) (e2 : g ρ B1 = r) : sIf fc g h ρ B = r := by
  unfold sIf
  rw [e]
  exact e2
theorem if_f {r : Option (Out × Bg)} (e : fc ρ B = some (.bl false, B1)) (e2 : h ρ B1 = r) : sIf fc g h ρ B = r := by
  unfold sIf
  rw [e]
  exact e2
theorem call_run {m : Fn} {r : Option (D × Bg)} (e : fs ρ B = some (ds, B1)) (e2 : m ds B1 = r) : xCall m fs ρ B = r := by
  unfold xCall
  rw [e]
  exact e2
theorem cons_run (e : f ρ B = some (d, B1)) (e2 : fs ρ B1 = some (ds, B2)) : xCons f fs ρ B = some (d :: ds, B2) := by
  unfold xCons
  rw [e]
  show (fs ρ B1).map _ = _
  rw [e2]
  rfl
theorem tup_run (e : fs ρ B = some (ds, B1)) : xTup fs ρ B = some (.tup ds, B1) := by
  unfold xTup
  rw [e]
  rfl
theorem lst_run (e : fs ρ B = some (ds, B1)) : xLst fs ρ B = some (.lst ds, B1) := by
  unfold xLst
  rw [e]
  rfl
theorem x1_run {u : D → Option D} (e : fa ρ B = some (x, B1)) (e2 : u x = some d) : x1 u fa ρ B = some (d, B1) := by
  unfold x1
  rw [e]
  show (u x).map _ = _
  rw [e2]
  rfl
theorem x2_run {u : D → D → Option D} (e : fa ρ B = some (x, B1)) (e1 : fb ρ B1 = some (y, B2)) (e2 : u x y = some d) : x2 u fa fb ρ B = some (d, B2) := by
  unfold x2
  rw [e]
  show (fb ρ B1).bind _ = _
  rw [e1]
  show (u x y).map _ = _
  rw [e2]
  rfl
theorem fn_run {n np : Nat} (hl : ds.length = np) (e : g (ds.map some ++ List.replicate (n - np) none) B = some (.rt d, B1)) : fnOf n np g ds B = some (d, B1) := by
  unfold fnOf
  rw [if_pos hl, e]
theorem par_run {is : List Nat} (e : fs ρ B = some (ds, B1)) : sPar is fs ρ B = some (.nx (putE ρ is ds), B1) := by
  unfold sPar
  rw [e]
  rfl
theorem for_run {T : Tg} {it : Exs} {r : Option (Out × Bg)} (e : it ρ B = some (ds, B1)) (e2 : forGo T g ds ρ B1 = r) : sFor T it g ρ B = r := by
  unfold sFor
  rw [e]
  exact e2
theorem forGo_nx {T : Tg} {r : Option (Out × Bg)} {ρ2 : Env} (e : T d ρ = some ρ1) (e1 : g ρ1 B = some (.nx ρ2, B1)) (e2 : forGo T g ds ρ2 B1 = r) : forGo T g (d :: ds) ρ B = r := by
  show (T d ρ).bind _ = _
  rw [e]
  show (g ρ1 B).bind _ = _
  rw [e1]
  exact e2
theorem while_nx {c : Ex} {n : Nat} {r : Option (Out × Bg)} {ρ2 : Env} (e : c ρ B = some (.bl true, B1)) (e1 : g ρ B1 = some (.nx ρ2, B2)) (e2 : whileGo c g n ρ2 B2 = r) : whileGo c g (n + 1) ρ B = r := by
  show (c ρ B).bind _ = _
  rw [e]
  show (g ρ B1).bind _ = _
  rw [e1]
  exact e2
theorem while_off {c : Ex} {n : Nat} (e : c ρ B = some (.bl false, B1)) : whileGo c g (n + 1) ρ B = some (.nx ρ, B1) := by
  show (c ρ B).bind _ = _
  rw [e]
  rfl
theorem and_t {r : Option (D × Bg)} (e : fa ρ B = some (.bl true, B1)) (e2 : fb ρ B1 = r) : xAnd fa fb ρ B = r := by
  unfold xAnd
  rw [e]
  exact e2
theorem and_f (e : fa ρ B = some (.bl false, B1)) : xAnd fa fb ρ B = some (.bl false, B1) := by
  unfold xAnd
  rw [e]
  rfl
theorem or_t (e : fa ρ B = some (.bl true, B1)) : xOr fa fb ρ B = some (.bl true, B1) := by
  unfold xOr
  rw [e]
  rfl
theorem or_f {r : Option (D × Bg)} (e : fa ρ B = some (.bl false, B1)) (e2 : fb ρ B1 = r) : xOr fa fb ρ B = r := by
  unfold xOr
  rw [e]
  exact e2
theorem not_run {k : Bool} (e : fa ρ B = some (.bl k, B1)) : xNot fa ρ B = some (.bl (!k), B1) := by
  unfold xNot
  rw [e]
  rfl
theorem ife_t {r : Option (D × Bg)} (e : fc ρ B = some (.bl true, B1)) (e2 : fa ρ B1 = r) : xIf fc fa fb ρ B = r := by
  unfold xIf
  rw [e]
  exact e2
theorem ife_f {r : Option (D × Bg)} (e : fc ρ B = some (.bl false, B1)) (e2 : fb ρ B1 = r) : xIf fc fa fb ρ B = r := by
  unfold xIf
  rw [e]
  exact e2
inductive All2 (P : D → D → Prop) : List D → List D → Prop
  | nil : All2 P [] []
  | cons {x y : D} {xs ys : List D} : P x y → All2 P xs ys → All2 P (x :: xs) (y :: ys)
/-- a comprehension whose every turn gives -/
theorem lcGo_map {T : Tg} {fe : Ex} (I : Bg → Prop) (P : D → D → Prop) (ρ : Env) : ∀ (ds : List D) (B : Bg), (∀ d ∈ ds, ∀ B, I B → ∃ ρ1 y B1, T d ρ = some ρ1 ∧ fe ρ1 B = some (y, B1) ∧ P d y ∧ I B1) → I B →
    ∃ ys B', lcGo T xYes fe ds ρ B = some (ys, B') ∧ All2 P ds ys ∧ I B'
  | [], B, _, h => ⟨[], B, rfl, .nil, h⟩
  | d :: ds, B, st, h => by
    obtain ⟨ρ1, y, B1, e1, e2, p, h1⟩ := st d (List.mem_cons_self ..) B h
    obtain ⟨ys, B', e3, p2, h3⟩ := lcGo_map I P ρ ds B1 (fun d hd => st d (List.mem_cons_of_mem _ hd)) h1
    refine ⟨y :: ys, B', ?_, .cons p p2, h3⟩
    show (T d ρ).bind _ = _
    rw [e1]
    show (fe ρ1 B).bind _ = _
    rw [e2]
    show (lcGo T xYes fe ds ρ B1).map _ = _
    rw [e3]
    rfl
theorem lc_run {vs : List Nat} {T : Tg} {it : Exs} {c fe : Ex} {ys : List D} (e : it ρ B = some (ds, B1)) (e1 : lcGo T c fe ds (wipeE ρ vs) B1 = some (ys, B2)) (hl : ys.length ≤ sizeLine) : xLC vs T it c fe ρ B = some (.lst ys, B2) := by
  unfold xLC
  rw [e]
  show (lcGo T c fe ds (wipeE ρ vs) B1).bind _ = _
  rw [e1]
  exact if_pos hl
end
structure Nice (k n : Nat) (d : D) : Prop where
  plain : d.plain = true
  lay : d.py.canLay0 = true
  show_ : d.py.showable = true
  depth : d.py.depth ≤ k
  len : d.py.shown.length ≤ n
theorem Nice.mono {k n k' n' : Nat} {d : D} (h : Nice k n d) (hk : k ≤ k') (hn : n ≤ n') : Nice k' n' d := ⟨h.plain, h.lay, h.show_, Nat.le_trans h.depth hk, Nat.le_trans h.len hn⟩
theorem nice_non : Nice 0 4 .non := ⟨rfl, rfl, rfl, Nat.le_refl _, by decide⟩
theorem nice_int_fin : ∀ i : Fin 300, (toString (i.val : Int) : Str).length ≤ 3 := by decide +kernel
theorem nice_int {i : Int} (h0 : 0 ≤ i) (h1 : i < 300) : Nice 0 3 (.int i) := by
  obtain ⟨n, rfl⟩ := Int.eq_ofNat_of_zero_le h0
  have hn : n < 300 := by omega
  refine ⟨rfl, rfl, ?_, Nat.le_refl _, nice_int_fin ⟨n, hn⟩⟩
  show decide ((n : Int).natAbs.log2 < 1920) = true
  rw [decide_eq_true_eq, Int.natAbs_natCast]
  exact Nat.lt_of_le_of_lt (Nat.log2_le_self n) (by omega)
theorem nice_str {x : Str} {n : Nat} (h1 : PyData.strOk x = true) (h2 : (reprText x).length ≤ n) : Nice 0 n (.str x) := by
  refine ⟨rfl, h1, rfl, Nat.le_refl _, h2⟩
theorem all_py {k n : Nat} : ∀ {ds : List D}, (∀ d ∈ ds, Nice k n d) → plainL ds = true ∧ PyData.canLayAll0 (pyL ds) = true ∧ PyData.showableAll (pyL ds) = true ∧ PyData.depthAll (pyL ds) ≤ k ∧ (PyData.shownAll (pyL ds)).length = ds.length ∧ ∀ t ∈ PyData.shownAll (pyL ds), t.length ≤ n
  | [], _ => ⟨rfl, rfl, rfl, Nat.zero_le _, rfl, fun t h => nomatch h⟩
  | d :: ds, h => by
    obtain ⟨h1, h2, h3, h4, h5, h6⟩ := all_py fun x hx => h x (List.mem_cons_of_mem _ hx)
    have q := h d (List.mem_cons_self ..)
    refine ⟨?_, ?_, ?_, ?_, ?_, ?_⟩
    · show (d.plain && plainL ds) = true
      rw [q.plain, h1]
      rfl
    · show (d.py.canLay0 && PyData.canLayAll0 (pyL ds)) = true
      rw [q.lay, h2]
      rfl
    · show (d.py.showable && PyData.showableAll (pyL ds)) = true
      rw [q.show_, h3]
      rfl
    · show PyData.depthAll (d.py :: pyL ds) ≤ k
      unfold PyData.depthAll
      exact Nat.max_le.mpr ⟨q.depth, h4⟩
    · show (PyData.shownAll (pyL ds)).length + 1 = ds.length + 1
      rw [h5]
    · intro t ht
      have ht : t ∈ d.py.shown :: PyData.shownAll (pyL ds) := ht
      rcases List.mem_cons.mp ht with rfl | ht
      · exact q.len
      · exact h6 t ht
theorem piled_le {n : Nat} : ∀ {ts : List Str}, (∀ t ∈ ts, t.length ≤ n) → piled ts ≤ ts.length * (n + 2)
  | [], _ => by
    rw [piled_nil]
    exact Nat.zero_le _
  | t :: ts, h => by
    have h1 := piled_le (ts := ts) fun x hx => h x (List.mem_cons_of_mem _ hx)
    have h2 := h t (List.mem_cons_self ..)
    show piled (t :: ts) ≤ (ts.length + 1) * (n + 2)
    rw [Nat.succ_mul]
    rw [piled_cons]
    omega
theorem nice_tup {k n m : Nat} {ds : List D} (h : ∀ d ∈ ds, Nice k n d) (hm : ds.length ≤ m) : Nice (k + 1) (m * (n + 2) + 3) (.tup ds) := by
  obtain ⟨h1, h2, h3, h4, h5, h6⟩ := all_py h
  refine ⟨h1, h2, h3, ?_, ?_⟩
  · show PyData.depth (.tuple (pyL ds)) ≤ k + 1
    unfold PyData.depth
    omega
  · show (tupleText (PyData.shownAll (pyL ds))).length ≤ _
    have p := piled_le h6
    rw [h5] at p
    have p2 : ds.length * (n + 2) ≤ m * (n + 2) := Nat.mul_le_mul_right _ hm
    have j := join_length_add (PyData.shownAll (pyL ds))
    unfold tupleText
    by_cases e : PyData.shownAll (pyL ds) = []
    · rw [e]
      have : ((("(" : Str) ++ Str.join ", " ([] : List Str) ++ (if (([] : List Str).length == 1) = true then ",)" else ")" : String)) : Str).length ≤ 3 := by decide
      omega
    · have j := j e
      have l1 : ∀ a b : Str, (a ++ b).length = a.length + b.length := fun a b => by
        show (a.cps ++ b.cps).size = _
        rw [Array.size_append]
        rfl
      rw [l1, l1]
      have l2 : ((if ((PyData.shownAll (pyL ds)).length == 1) = true then ",)" else ")" : String) : Str).length ≤ 2 := by
        split <;> decide
      have l3 : ("(" : Str).length = 1 := by decide
      omega
mutual
theorem eqv_self : ∀ d : PyData, d.canLay0 = true → PyData.eqv d d = true
  | .none, _ => rfl
  | .bool b, _ => by simp [PyData.eqv]
  | .int i, _ => by simp [PyData.eqv]
  | .str x, _ => by simp [PyData.eqv]
  | .list xs, h => by
    rw [PyData.eqv]
    exact eqvs_self xs (by simpa [PyData.canLay0] using h)
  | .tuple xs, h => by
    rw [PyData.eqv]
    exact eqvs_self xs (by simpa [PyData.canLay0] using h)
  | .dict _, h => by simp [PyData.canLay0] at h
theorem eqvs_self : ∀ xs : List PyData, PyData.canLayAll0 xs = true → PyData.eqvAll xs xs = true
  | [], _ => rfl
  | x :: xs, h => by
    have h' : x.canLay0 = true ∧ PyData.canLayAll0 xs = true := by simpa [PyData.canLayAll0] using h
    rw [PyData.eqvAll, eqv_self x h'.1, eqvs_self xs h'.2]
    rfl
end
theorem gEq_nice {k n : Nat} {d : D} (h : Nice k n d) (hk : k ≤ 64) : gEq d d = some (.bl true) := by
  have hs : SeqAt.shaped d.py = true := by
    unfold SeqAt.shaped
    rw [h.lay, Bool.true_and, decide_eq_true_eq]
    exact Nat.le_trans h.depth hk
  have e : eqOk d d = true := by
    unfold eqOk
    rw [h.plain, hs]
    rfl
  unfold gEq
  rw [if_pos e]
  unfold eqB
  rw [eqv_self d.py h.lay]
theorem gRepr_tup {k n : Nat} {ds : List D} (h : Nice k n (.tup ds)) (hk : k < 64) (hn : n ≤ sizeLine) : gRepr (.tup ds) = some (.str (D.tup ds).py.shown) := by
  have e : showOk (.tup ds) = true := by
    unfold showOk
    rw [h.plain, h.show_, decide_eq_true (Nat.lt_of_le_of_lt h.depth hk), decide_eq_true (Nat.le_trans h.len hn)]
    rfl
  show (if showOk (.tup ds) = true then _ else _) = _
  rw [if_pos e]
theorem gEq_text (x y : Str) : gEq (.str x) (.str y) = some (.bl (x == y)) := by
  unfold gEq
  have e : eqB (.str x) (.str y) = (x == y) := rfl
  by_cases h : eqOk (.str x) (.str y) = true
  · rw [if_pos h, e]
  · rw [if_neg h]
    rw [e]
    rfl
theorem gNe_text (x y : Str) : gNe (.str x) (.str y) = some (.bl (!(x == y))) := by
  unfold gNe
  have e : eqB (.str x) (.str y) = (x == y) := rfl
  by_cases h : eqOk (.str x) (.str y) = true
  · rw [if_pos h, e]
  · rw [if_neg h]
    rw [e]
    rfl
end DL
namespace DL
open PySem PySem.Spec PyProof.Rows L2
section
variable {X : Cx} {ow owL : Mk} {ro : List Nat} {pos : Pos} {x y z : Str} {a b : Expr} {fs : Exs}
end
end DL
namespace DL
open PySem PySem.Spec PyProof.Rows L2
def revS (z : Str) : Str := ⟨z.cps.toList.reverse.toArray⟩
section
variable {prog : Program} {w : World} {A : Around} {E : Value → Shared → Prop} {s : Shared}
theorem sliced_back {sl : Addr} {vs : Value} {n : Nat} {Q : Int × Int × Nat → Shared → Prop} (hs : s.heap.IsSliceOf sl .none .none vs) (pv : IsPart vs (some (-1)))
    (h : Q ((n : Int) - 1, -1, n) s) : wpAny (model prog w) A (Builtin.Slice.sliceApplied (.ref sl) (pure (n : Int))) Q E s := by
  obtain ⟨os, hos, hcs, hds⟩ := id hs
  unfold Builtin.Slice.sliceApplied Builtin.Slice.sliceFields
  refine wpAny_bind (wpAny_bind (wpAny_field hos hds (x := .none) rfl (wpAny_bind (wpAny_field hos hds (x := .none) rfl (wpAny_bind (wpAny_field hos hds (x := vs) rfl (wpAny_pure ?_)))))))
  refine wpAny_bind (HT.slicePart_ pv ?_)
  show wpAny _ _ (if ((-1 : Int) == 0) = true then _ else _) _ _ s
  rw [if_neg (by decide)]
  refine wpAny_bind (HT.slicePart_ .none (wpAny_bind (HT.slicePart_ .none (wpAny_bind (wpAny_pure ?_)))))
  have e : Builtin.Slice.sliceAdjust none none (-1) (n : Int) = ((n : Int) - 1, -1) := rfl
  have e2 : Builtin.Slice.slicePlaces ((n : Int) - 1) (-1) (-1) = n := by
    unfold Builtin.Slice.slicePlaces
    have h1 : ¬ ((-1 : Int) > 0) := by decide
    have h2 : (- -1 : Int) = 1 := by decide
    simp only [h1, if_false, h2, Int.ediv_one]
    split <;> omega
  show wpAny _ _ (match Builtin.Slice.sliceAdjust none none (-1) (n : Int) with | (lo, hi) => pure (lo, (-1 : Int), Builtin.Slice.slicePlaces lo hi (-1))) _ _ s
  rw [e]
  show wpAny _ _ (pure ((n : Int) - 1, (-1 : Int), Builtin.Slice.slicePlaces ((n : Int) - 1) (-1) (-1))) _ _ s
  rw [e2]
  exact wpAny_pure h
theorem pick_back (xs : Array Value) : ((List.range xs.size).filterMap fun (m : Nat) => xs[((xs.size : Int) - 1 + (m : Int) * -1).toNat]?).toArray = xs.toList.reverse.toArray := by
  have e : (fun (m : Nat) => xs[((xs.size : Int) - 1 + (m : Int) * -1).toNat]?) = fun m => (fun i => xs[i]?) (xs.size - 1 - m) := by
    funext m
    have : ((xs.size : Int) - 1 + (m : Int) * -1).toNat = xs.size - 1 - m := by omega
    rw [this]
  have e3 : ((List.range xs.size).filterMap fun (m : Nat) => xs[((xs.size : Int) - 1 + (m : Int) * -1).toNat]?) = ((List.range xs.size).map fun k => xs.size - 1 - k).filterMap (fun i => xs[i]?) := by
    rw [List.filterMap_map, e]
    rfl
  rw [e3, PySem.W.krv_range, List.filterMap_reverse]
  have q := PySem.W.krv_all xs
  rw [q]
theorem tuple_back {t sl : Addr} {items : Array Value} {vs : Value} {Q : Value → Shared → Prop} (ht : IsTup s.heap t items) (hs : s.heap.IsSliceOf sl .none .none vs) (pv : IsPart vs (some (-1)))
    (h : Q (.ref s.heap.objs.size) { s with heap := s.heap.push { cls := .type "tuple", data := .seq items.toList.reverse.toArray } }) (hsz : items.size ≤ sizeLine) : wpAny (model prog w) A (getItem (.ref t) (.ref sl)) Q E s := by
  have htake : sizeOk (.seq items.toList.reverse.toArray) := by
    show items.toList.reverse.toArray.size ≤ sizeLine
    rw [List.size_toArray, List.length_reverse, Array.length_toList]
    exact hsz
  obtain ⟨os, hos, hcs, hds⟩ := id hs
  have hTs : s.TypeIs (.ref sl) "slice" := ⟨os, hos, hcs⟩
  unfold getItem
  try with_reducible refine wpAny_holding ?_
  first | refine wpAny_bind (wpAny_pure ?_) | skip
  refine wpAny_bind (wpAny_sequenceKey ht.typeIs (by decide) ?_)
  refine wpAny_bind (wpAny_callSpecial?_slot (name := Str.ofString "__getitem__") ht.typeIs PyProof.Rows.slot_tuple_getitem
    (wpAny_call_entry PyProof.Rows.slot_tuple_getitem ht.typeIs entry_tuple_getitem ?_ (args_tuple_getitem _ _)))
  show wpAny _ _ (Builtin.Tuple.tupleItemsOf (.ref t) >>= _) _ _ s
  refine wpAny_bind (tupleItemsOf_ ht ?_)
  refine wpAny_bind (wpAny_typeOf hTs ?_)
  rw [if_pos (by decide)]
  refine wpAny_bind (sliced_back hs pv ?_)
  have hno : ¬ ((((items.size : Int) - 1) == 0 && (-1 : Int) == 1 && items.size == items.size) = true) := by
    intro q
    rw [Bool.and_eq_true, Bool.and_eq_true] at q
    exact absurd (eq_of_beq q.1.2) (by decide)
  show wpAny _ _ (if (((items.size : Int) - 1) == 0 && (-1 : Int) == 1 && items.size == items.size) = true then _ else _) _ _ s
  rw [if_neg hno, pick_back]
  first
    | exact wpAny_bind (m := Builtin.Tuple.tupleExact _) (wpAny_newObj_type (wpAny_pure ⟨_, rfl, wpAny_pure h⟩) htake)
    | exact wpAny_bind (m := Builtin.Tuple.tupleExact _) (wpAny_newObj_type (wpAny_bind (wpAny_pure (wpAny_pure ⟨_, rfl, wpAny_pure h⟩))) htake)
    | exact wpAny_bind (wpAny_bind (m := Builtin.Tuple.tupleExact _) (wpAny_newObj_type (wpAny_pure (wpAny_pure ⟨_, rfl, wpAny_pure h⟩)) htake))
    | exact wpAny_bind (wpAny_bind (m := Builtin.Tuple.tupleExact _) (wpAny_newObj_type (wpAny_pure ⟨_, rfl, wpAny_pure h⟩) htake))
theorem sign_back (z : Str) : ((Builtin.Str.strSliceIndices none none (-1) z.length).filterMap (z.cps[·]?)).toArray = z.cps.toList.reverse.toArray := by
  have e : Builtin.Str.strSliceIndices none none (-1) z.length = (List.range z.cps.size).map fun k => z.cps.size - 1 - k := PySem.W.krv_sliceRange z.cps.size
  rw [e, PySem.W.krv_range, List.filterMap_reverse]
  have q := PySem.W.krv_all z.cps
  rw [q]
end
def tRevA (K : PySem.W.Frag) (te : TE) : TE := fun σ H Q => te σ H fun x H1 => (∃ a xs, x = .ref a ∧ SqT K H1 a xs ∧ ∀ p, H1 p = none → Q (.ref p) (upd H1 p (.tup xs.reverse))) ∨ ∃ z, x = .str z ∧ z.length ≤ sizeLine ∧ Q (.str (revS z)) H1
section
variable {X : Cx}
theorem pe_revA {e : Expr} {te : TE} {k : Nat} {p1 p2 p3 pos : Pos} (he : PE X e te) : PE X (.Subscript e (.Slice none none (some (.UnaryOp .USub (.Constant (.int 1) k p1) p2)) p3) pos) (tRevA X.kx te) := by
  refine ⟨fun pins s σ H Q I h => ?_⟩
  refine Subscript_ (thn (he.run pins s σ H _ I h) fun v s1 ⟨x, H1, I1, r1, q1⟩ => ?_)
  have hst : PO X (some (.UnaryOp .USub (.Constant (.int 1) k p1) p2)) (tPart (tUn (rU fun i => .int (-i)) (tC (.int 1)))) := po_some (pe_un un_neg pe_int)
  refine wpAny_Slice (thn (po_none.run pins s1 σ H1 (fun o H2 => o = none ∧ H2 = H1) I1 ⟨rfl, rfl⟩) fun vl s2 ⟨l, H2, I2, pl, el, e2⟩ => ?_)
  subst el e2
  refine thn (po_none.run pins s2 σ H2 (fun o H3 => o = none ∧ H3 = H2) I2 ⟨rfl, rfl⟩) fun vu s3 ⟨u, H3, I3, pu, eu, e3⟩ => ?_
  subst eu e3
  refine thn (hst.run pins s3 σ H3 (fun o H4 => o = some (-1) ∧ H4 = H3) I3 ⟨1, rfl, -1, rfl, rfl, rfl⟩) fun vs s4 ⟨o, H4, I4, ps, eo, e4⟩ => ?_
  subst eo e4
  have I5 : Inv X pins σ H4 { s4 with heap := s4.heap.push { cls := .type "slice", data := .fields #[vl, vu, vs] } } := I4.kept (t' := s4.toks) fun b ob q => Heap.get?_push_of_some _ q
  cases pl
  cases pu
  rcases q1 with ⟨a, xs, rfl, hx, q⟩ | ⟨z, rfl, hz, q⟩
  · cases r1
    obtain ⟨its, r, ht, hz⟩ := I5.tuple hx
    have hlen := r.length
    show wpAny (model X.prog X.w) X.A (subscriptTail e (.Slice none none (some (.UnaryOp .USub (.Constant (.int 1) k p1) p2)) p3) (.ref a) (.ref s4.heap.objs.size)) (EP X pins σ Q) X.xe { s4 with heap := s4.heap.push { cls := .type "slice", data := .fields #[.none, .none, vs] } }
    refine tail_any (ops := [.ref a, .ref s4.heap.objs.size]) ht.typeIs (PyProof.Rows.slot_tuple_getitem.lookup) ?_ (by with_unfolding_all rfl)
    refine tuple_back ht (Heap.IsSliceOf.new _ .none .none vs) ps ?_ (by rw [List.size_toArray]; omega)
    refine ⟨.ref _, _, I5.laid (t' := s4.toks) (o := .tup xs.reverse) (fun b ob q => Heap.get?_push_of_some _ q) (Nat.le_refl _) ?_, rfl, q _ (I5.hok.fresh (Nat.le_refl _))⟩
    exact ⟨by rw [List.length_reverse]; exact hz, _, r.reverse, IsTup.new _ _⟩
  · obtain ⟨t, rfl⟩ := r1
    show wpAny (model X.prog X.w) X.A (subscriptTail e (.Slice none none (some (.UnaryOp .USub (.Constant (.int 1) k p1) p2)) p3) (.str z t) (.ref s4.heap.objs.size)) (EP X pins σ Q) X.xe { s4 with heap := s4.heap.push { cls := .type "slice", data := .fields #[.none, .none, vs] } }
    refine tail_any (ops := [.str z t, .ref s4.heap.objs.size]) (typeIs_str _ _ _) (F.slot_str_getitem.lookup) ?_ (by with_unfolding_all rfl)
    obtain ⟨os, hos, hcs, hds⟩ := Heap.IsSliceOf.new s4.heap .none .none vs
    obtain ⟨st, rfl, hst'⟩ := IsPart.raw ps
    refine wpAny_getItem_str_slice (l := none) (u := none) (st := st) ⟨os, hos, hcs, hds⟩ (by rw [hst']; rfl) ?_
    unfold sliceMade slicePicked
    rw [hst']
    have hl : (revS z).length ≤ sizeLine := by
      show z.cps.toList.reverse.toArray.size ≤ sizeLine
      rw [List.size_toArray, List.length_reverse, Array.length_toList]
      exact hz
    show Made.post (if ((-1 : Int) == 1 && (Builtin.Str.strSliceIndices none none (-1) z.length).length == z.length) = true then Made.val (.str z t)
      else Made.str ⟨((Builtin.Str.strSliceIndices none none (-1) z.length).filterMap (z.cps[·]?)).toArray⟩) (EP X pins σ Q) _
    rw [if_neg (by
      rw [Bool.and_eq_true]
      exact fun q => absurd (eq_of_beq q.1) (by decide)), sign_back]
    exact ⟨hl, .str _, _, I5.tok _, ⟨_, rfl⟩, q⟩
end
end DL
namespace DL
open PySem PySem.Spec PyProof.Rows L2
end DL
namespace DL
open PySem PySem.Spec PyProof.Rows L2
section
variable {prog : Program} {w : World} {A : Around} {E : Value → Shared → Prop} {s : Shared} {l : Addr} {xs : Array (Int × Tok)}
end
section
variable {X : Cx}
variable {ow : Mk} {ro : List Nat} {m : Mo} {pos p : Pos} {a b e : Expr} {fa fb f : Ex} {x : Str}
end
end DL
namespace DL
open PySem PySem.Spec PyProof.Rows L2
section
variable {X : Cx} {ow : Mk} {ro us : List Nat} {m : Mo} {pos p : Pos} {a b e : Expr} {fa fb f : Ex} {x : Str} {fs : Exs}
end
end DL
namespace DL
open PySem PySem.Spec PyProof.Rows L2
def canF (K : Kx) (ow : Mk) (ro : List Nat) (i : Nat) (g : Sx) : TS := fun E σ H => ∃ (w : Wd) (ρ : Env) (B : Bg) (F : Hp) (ρ' : Env) (B' : Bg) (d : D), w.z.K = K ∧ w.R.map (·.1) = ro ∧ Rel w ow ρ B F H σ ∧ g ρ B = some (.nx ρ', B') ∧ ρ'[i]? = some (some d) ∧
  ∀ v F' H', Grow w.z w.F0 w.H0 F' H' → BagAt w.z F' H' B' → Res .fr w.z w.H0 F' H' v d → E.rt v H'
/-- the statements do g, and give back what stands in slot i, an object of their own -/
def PVF (ow : Mk) (ro : List Nat) (i : Nat) (X : Cx) (s : List Stmt) (g : Sx) : Prop := PSs X s (canF X.kx ow ro i g)
section
variable {X : Cx} {ow ow1 owL : Mk} {ro : List Nat} {i : Nat} {s : Stmt} {ss : List Stmt} {g h : Sx} {pos : Pos}
theorem vf_ret {x : Str} {npos : Pos} (hw : ow.getD i false = true := by rfl) (hr : i ∉ ro := by decide) (hN : X.N[i]? = some x := by rfl) (hv : Vis X.env.scope x := by first | exact Or.inl rfl | exact Or.inr (Or.inl rfl) | exact Or.inr (Or.inr rfl))
    (hd : (x == ("__debug__" : Str)) = false := by decide) (hcd : (x == ("__classdict__" : Str)) = false := by decide) : PVF ow ro i X [.Return (some (.Name x npos)) pos] sNil :=
  pss_weak (pss_one (ps_ret (pe_var hN hv hd hcd))) fun E σ H ⟨w, ρ, B, F, ρ', B', d, hK, hR, r, hg, hi, k⟩ => by
    cases hg
    obtain ⟨a, o, q⟩ := r.own i d hw (hR ▸ hr) hi
    exact ⟨_, q.sl, k _ F H r.gr r.bag ⟨a, o, rfl, q.nb, q.new, q.nf, q.at_, q.c⟩⟩
theorem vf_cons (hs : PVS ow ow1 owL ro X s g) (hr : PVF ow1 ro i X ss h) : PVF ow ro i X (s :: ss) (sSeq g h) :=
  pss_weak (pss_cons hs hr) fun E σ H ⟨w, ρ, B, F, ρ', B', d, hK, hR, r, hg, hi, k⟩ => by
    unfold sSeq at hg
    rw [Option.bind_eq_some_iff] at hg
    obtain ⟨⟨o1, B1⟩, e1, hg⟩ := hg
    refine ⟨w, ρ, B, F, o1, B1, hK, hR, r, e1, ?_⟩
    cases o1 with
    | nx ρ1 => exact fun F1 H1 σ1 r1 => ⟨w, ρ1, B1, F1, ρ', B', d, hK, hR, r1, hg, hi, k⟩
    | rt d => cases hg
    | bk d => cases hg
    | ct d => cases hg
end
def spF (K : Kx) (n : Nat) (f : Fn) : Sp := fun vs H Q _ => ∃ (z : Bs) (F : Hp) (B : Bg) (ds : List D) (d : D) (B' : Bg), z.K = K ∧ vs.length = n ∧ Same F H ∧ BagAt z F H B ∧ Dens z F vs ds ∧ f ds B = some (d, B') ∧
  ∀ v F' H', Grow z F H F' H' → BagAt z F' H' B' → Res .fr z H F' H' v d → Q v H'
def fnOfF (n np i : Nat) (g : Sx) : Fn := fun ds B => if ds.length = np then
    match g (ds.map some ++ List.replicate (n - np) none) B with
    | some (.nx ρ, B') => (ρ.getD i none).map fun d => (d, B')
    | _ => none
  else none
theorem fnF_of {P : Program} {w : World} {K : PySem.W.Frag} {mg : Str → Option Value} {base : Heap} {k : Nat} {x qual : Str} {st : Stmt} {f : Addr} {fd : FuncData} {N ps : List Str} {g : Sx} {i : Nat} (F : Fun K x qual st f fd) (S : FnScope N ps (defScope st))
    (hb : ∀ (cdv : Value) (A : Around) (outer : List PySem.Env) (s : Shared) (H : Hp), Room k (A.deeper (envOfC qual (defScope st) s.heap.objs.size f cdv)) → A.guards = some [] →
      PVF (List.replicate N.length false) [] i (cxOf CX0 P w K mg base N qual (defScope st) f cdv A outer s H E0).nox (defBody st) g) : FnG P w K mg base (k + 1) f fd ps (spF ⟨K, P, w⟩ ps.length (fnOfF N.length ps.length i g)) := by
  refine fn_ofG F S (fun vs H Q E h => ?_) (fun cdv A outer s H vs Q hr hg h => ?_)
  · obtain ⟨z, F, B, ds, d, B', _, hl, _⟩ := h
    exact hl
  · obtain ⟨z, F, B, ds, d, B', hK, hl, hs, bg, hd, hf, q⟩ := h
    refine ⟨_, hb cdv A outer s H hr hg, ?_⟩
    have hdl : ds.length = ps.length := hd.length.symm.trans hl
    unfold fnOfF at hf
    rw [if_pos hdl, ← hdl] at hf
    cases e : g (ds.map some ++ List.replicate (N.length - ds.length) none) B with
    | none => rw [e] at hf; cases hf
    | some r =>
      obtain ⟨o, B1⟩ := r
      rw [e] at hf
      cases o with
      | nx ρ' =>
        have hf : (ρ'.getD i none).map (fun d => (d, B1)) = some (d, B') := hf
        rw [Option.map_eq_some_iff] at hf
        obtain ⟨d', e2, hf⟩ := hf
        cases hf
        rw [List.getD_eq_getElem?_getD] at e2
        have e3 : ρ'[i]? = some (some d) := by
          cases z : ρ'[i]? with
          | none => rw [z] at e2; cases e2
          | some u =>
            rw [z] at e2
            exact congrArg some e2
        exact ⟨{ z := z, R := [], F0 := F, H0 := H }, _, B, F, ρ', _, d, hK, rfl, start_rel hs bg hd, e, e3, fun v F' H' g1 b1 q1 => q v F' H' g1 b1 q1⟩
      | rt d' => cases hf
      | bk _ => cases hf
      | ct _ => cases hf
theorem fnF_by {P : Program} {w : World} {K : PySem.W.Frag} {mg : Str → Option Value} {base : Heap} {k : Nat} {x qual : Str} {st : Stmt} {f : Addr} {fd : FuncData} {N ps : List Str} (n np i : Nat) (ow0 : Mk) {m : Fn} {g : Sx} (hm : m = fnOfF n np i g) (F : Fun K x qual st f fd) (S : FnScope N ps (defScope st)) (hn : N.length = n) (hp : ps.length = np) (ho : List.replicate n false = ow0)
    (hb : ∀ (cdv : Value) (A : Around) (outer : List PySem.Env) (s : Shared) (H : Hp), Room k (A.deeper (envOfC qual (defScope st) s.heap.objs.size f cdv)) → A.guards = some [] →
      PVF ow0 [] i (cxOf CX0 P w K mg base N qual (defScope st) f cdv A outer s H E0).nox (defBody st) g) : FnG P w K mg base (k + 1) f fd ps (spF ⟨K, P, w⟩ np m) := by
  subst hn
  subst hp
  subst ho
  subst hm
  exact fnF_of F S hb
section
variable {X : Cx} {k : Nat} {f : Addr} {fd : FuncData} {ps : List Str} {x : Str} {p pos : Pos} {e : Expr} {es : List Expr}
theorem pv_callF {n : Nat} {fn : Fn} {fs : Exs} {ms : List Mo} {ow : Mk} {ro : List Nat} (h : FnG X.prog X.w X.kx X.mg X.base k f fd ps (spF X.kx n fn)) (hr : Room k X.A) (hgd : X.A.guards = some []) (hm : X.mg x = some (.ref f)) (hk : PySem.W.keepIn X.kx (.ref f) = true) (hb : Binds X.kx fd ps [])
    (ha : PVs ms ow ro X (e :: es) fs) (hms : allSt ms = true := by rfl) (hn : ms.length = n := by rfl) (hg : Gl X x := by rfl)
    (hdb : (x == ("__debug__" : Str)) = false := by decide) (he : starEach (e :: es) X.env = (false, eval e X.env) :: starEach es X.env := by rfl) (hpl : (backTo pos (starEach es X.env)).any (·.1) = false := by rfl) :
    PV .fr ow ro X (.Call (.Name x p) (e :: es) [] pos) (xCall fn fs) :=
  PV.of (pe_callG h hr hgd hm hk hb ha hg hdb he hpl) fun w ρ B F H σ d B' hK hR r hf Q k => by
    unfold xCall at hf
    rw [Option.bind_eq_some_iff] at hf
    obtain ⟨⟨ds, B1⟩, e1, hf⟩ := hf
    refine ⟨w, ρ, B, F, ds, B1, hK, hR, r, e1, fun vs F1 H1 g1 b1 q1 => ?_⟩
    exact ⟨w.z, F1, B1, ds, d, B', hK, q1.length.1.trans hn, g1.sub, b1, q1.dens hms, hf, fun v F' H' g2 b2 q2 => k v F' H' (g1.trans g2) b2 (Res.back (m := .fr) g1 q2)⟩
end
end DL
namespace DL
open PySem PySem.Spec PyProof.Rows L2
section
variable {w : Wd} {ow : Mk} {ρ : Env} {B : Bg} {F H : Hp} {σ : Sl}
/-- what was settled meanwhile is forgotten: only what stood is kept -/
theorem Rel.back {F1 F2 H2 : Hp} {B2 : Bg} (r : Rel w ow ρ B F H σ) (s : Same F F1) (g : Grow w.z F1 H F2 H2) (b : BagAt w.z F2 H2 B2) : Rel w ow ρ B2 F H2 σ where
  gr := ⟨r.gr.le, (s.trans g.le).trans g.sub, fun a o nb e => g.keep a o nb (r.gr.keep a o nb e), r.gr.nf⟩
  bag := by
    refine ⟨r.bag.1, b.2.1, ?_⟩
    have e1 := r.bag.2.2
    have e2 := (s.trans g.le) _ _ e1
    rw [b.2.2] at e2
    rw [e1, ← e2]
  set := r.set
  own := fun i d h1 h2 h3 => let ⟨a, o, q⟩ := r.own i d h1 h2 h3; ⟨a, o, q.sl, q.nb, q.nf, g.keep a o q.nb q.at_, q.c, q.new⟩
  apart := r.apart
  ro := fun p hp => let q := r.ro p hp; ⟨q.sl, q.nb, q.nf, q.c⟩
  len := r.len
end
section
variable {X : Cx} {ow ow' owL : Mk} {ro : List Nat} {g h : Sx} {pos : Pos}
end
end DL
namespace NS
open PySem PySem.Spec PyProof.Rows L2
mutual
def onlyNum : NestedKey → Bool
  | .num _ => true
  | .tup ks => onlyNums ks
  | .none => false
  | .text _ => false
def onlyNums : List NestedKey → Bool
  | [] => true
  | k :: ks => onlyNum k && onlyNums ks
end
section
variable {P : Program} {w : World}
/-- v is of no class statement, n levels down -/
def NoCls (P : Program) (w : World) (n : Nat) (s : Shared) (v : Value) : Prop := ∀ (A : Around) (E : Value → Shared → Prop) (Q : Bool → Shared → Prop), Q false s → wpAny (model P w) A (ofAClassStatement n v) Q E s
theorem noCls_plain {n : Nat} {s : Shared} {v : Value} (h : ofAClassStatement n v = pure false) : NoCls P w n s v := fun A E Q q => by
  rw [h]
  exact wpAny_pure q
theorem noCls_tup {n : Nat} {s : Shared} {b : Addr} {ob : Obj} {xs : Array Value} {m : Nat} (hb : s.heap.get? b = some ob) (hcl : ob.cls = .type "tuple") (hda : ob.data = .seq xs m) (hx : ∀ v ∈ xs.toList, NoCls P w n s v) : NoCls P w (n + 1) s (.ref b) := fun A E Q q => by
  have ty : s.TypeIs (.ref b) "tuple" := ⟨ob, hb, hcl⟩
  unfold ofAClassStatement
  refine wpAny_bind (wpAny_typeOf ty ?_)
  dsimp only
  simp only [(by decide : (("tuple" : String) == "tuple") = true), if_true, Bool.not_true, Bool.false_eq_true, if_false]
  try (refine wpAny_bind (wpAny_pure ?_); simp only [Bool.not_true, Bool.false_eq_true, if_false])
  show wpAny _ _ (seqItems? (.ref b) >>= _) _ _ s
  refine wpAny_bind (wpAny_seqItems hb hda ?_)
  dsimp only
  refine wpAny_bind (show wpAny _ _ (forIn xs _ _) _ _ s from ?_)
  rw [← Array.forIn_toList]
  refine wpAny_forIn_list _ (fun left acc st => acc.1 = none ∧ st = s ∧ ∀ v ∈ left, NoCls P w n s v) _ (fun v left acc st hst => ?_) (fun acc st hst => ?_) _ _ ⟨rfl, rfl, hx⟩
  · obtain ⟨h1, rfl, h3⟩ := hst
    refine wpAny_bind (h3 v List.mem_cons_self _ _ _ ?_)
    simp only [Bool.false_eq_true, if_false]
    exact wpAny_pure ⟨rfl, rfl, fun u hu => h3 u (List.mem_cons_of_mem _ hu)⟩
  · obtain ⟨c1, c2⟩ := acc
    obtain ⟨h1, rfl, _⟩ := hst
    simp only at h1
    subst h1
    exact wpAny_pure q
/-- v's hash is a number's, by value -/
def ByVal (P : Program) (w : World) (n : Nat) (s : Shared) (v : Value) : Prop := ∀ (A : Around) (E : Value → Shared → Prop) (Q : Bool → Shared → Prop), Q true s → wpAny (model P w) A (hashByValue n v) Q E s
theorem byVal_plain {n : Nat} {s : Shared} {v : Value} (h : hashByValue n v = pure true) : ByVal P w n s v := fun A E Q q => by
  rw [h]
  exact wpAny_pure q
theorem byVal_tup {n : Nat} {s : Shared} {b : Addr} {ob : Obj} {xs : Array Value} {m : Nat} (hb : s.heap.get? b = some ob) (hcl : ob.cls = .type "tuple") (hda : ob.data = .seq xs m) (hx : ∀ v ∈ xs.toList, ByVal P w n s v) : ByVal P w (n + 1) s (.ref b) := fun A E Q q => by
  have ty : s.TypeIs (.ref b) "tuple" := ⟨ob, hb, hcl⟩
  unfold hashByValue
  refine wpAny_bind (wpAny_specialOf ty F.slot_tuple_hash.lookup ?_)
  show wpAny _ _ (seqItems? (.ref b) >>= _) _ _ s
  refine wpAny_bind (wpAny_seqItems hb hda ?_)
  refine wpAny_bind (show wpAny _ _ (forIn xs _ _) _ _ s from ?_)
  rw [← Array.forIn_toList]
  refine wpAny_forIn_list _ (fun left acc st => acc.1 = none ∧ st = s ∧ ∀ v ∈ left, ByVal P w n s v) _ (fun v left acc st hst => ?_) (fun acc st hst => ?_) _ _ ⟨rfl, rfl, hx⟩
  · obtain ⟨h1, rfl, h3⟩ := hst
    refine wpAny_bind (h3 v List.mem_cons_self _ _ _ ?_)
    simp only [Bool.not_true, Bool.false_eq_true, if_false]
    exact wpAny_pure ⟨rfl, rfl, fun u hu => h3 u (List.mem_cons_of_mem _ hu)⟩
  · obtain ⟨c1, c2⟩ := acc
    obtain ⟨h1, rfl, _⟩ := hst
    simp only at h1
    subst h1
    exact wpAny_pure q
mutual
theorem noCls_key : ∀ (k : NestedKey) (v : Value) (n : Nat) (s : Shared), NestedIs s.heap k v → onlyNum k = true → k.depth ≤ n → NoCls P w n s v
  | .num i, _, n, s, x, _, _ => by
    cases x with
    | bool e => exact noCls_plain (by cases n <;> rfl)
    | int _ t => exact noCls_plain (by cases n <;> rfl)
  | .tup ks, _, n, s, x, hn, hd => by
    cases x with
    | tup h1 h2 h3 h4 =>
      unfold NestedKey.depth at hd
      match n, hd with
      | n + 1, hd => exact noCls_tup h1 h2 h3 (noCls_keys ks _ n s h4 (by unfold onlyNum at hn; exact hn) (by omega))
  | .none, _, _, _, _, hn, _ => by unfold onlyNum at hn; cases hn
  | .text _, _, _, _, _, hn, _ => by unfold onlyNum at hn; cases hn
theorem noCls_keys : ∀ (ks : List NestedKey) (vs : List Value) (n : Nat) (s : Shared), NestedAll s.heap ks vs → onlyNums ks = true → NestedKey.depthAll ks ≤ n → ∀ v ∈ vs, NoCls P w n s v
  | [], _, _, _, x, _, _, v, hv => by
    cases x
    cases hv
  | k :: ks, _, n, s, x, hn, hd, v, hv => by
    cases x with
    | cons x1 x2 =>
      unfold onlyNums at hn
      rw [Bool.and_eq_true] at hn
      unfold NestedKey.depthAll at hd
      rcases List.mem_cons.mp hv with rfl | hv
      · exact noCls_key k _ n s x1 hn.1 (by omega)
      · exact noCls_keys ks _ n s x2 hn.2 (by omega) v hv
end
mutual
theorem byVal_key : ∀ (k : NestedKey) (v : Value) (n : Nat) (s : Shared), NestedIs s.heap k v → onlyNum k = true → k.depth ≤ n → ByVal P w n s v
  | .num i, _, n, s, x, _, _ => by
    cases x with
    | bool e => exact byVal_plain (by cases n <;> rfl)
    | int _ t => exact byVal_plain (by cases n <;> rfl)
  | .tup ks, _, n, s, x, hn, hd => by
    cases x with
    | tup h1 h2 h3 h4 =>
      unfold NestedKey.depth at hd
      match n, hd with
      | n + 1, hd => exact byVal_tup h1 h2 h3 (byVal_keys ks _ n s h4 (by unfold onlyNum at hn; exact hn) (by omega))
  | .none, _, _, _, _, hn, _ => by unfold onlyNum at hn; cases hn
  | .text _, _, _, _, _, hn, _ => by unfold onlyNum at hn; cases hn
theorem byVal_keys : ∀ (ks : List NestedKey) (vs : List Value) (n : Nat) (s : Shared), NestedAll s.heap ks vs → onlyNums ks = true → NestedKey.depthAll ks ≤ n → ∀ v ∈ vs, ByVal P w n s v
  | [], _, _, _, x, _, _, v, hv => by
    cases x
    cases hv
  | k :: ks, _, n, s, x, hn, hd, v, hv => by
    cases x with
    | cons x1 x2 =>
      unfold onlyNums at hn
      rw [Bool.and_eq_true] at hn
      unfold NestedKey.depthAll at hd
      rcases List.mem_cons.mp hv with rfl | hv
      · exact byVal_key k _ n s x1 hn.1 (by omega)
      · exact byVal_keys ks _ n s x2 hn.2 (by omega) v hv
end
/-- the tuple at b is the key k, numbers alone -/
structure IsN (h : Heap) (k : NestedKey) (b : Addr) : Prop where
  is : NestedIs h k (.ref b)
  num : onlyNum k = true
  low : k.depth ≤ 8
theorem IsN.seq {h : Heap} {k : NestedKey} {b : Addr} (x : IsN h k b) : ∃ ob xs m, h.get? b = some ob ∧ ob.data = .seq xs m := by
  have x := x.is
  cases x with
  | tup h1 h2 h3 h4 => exact ⟨_, _, _, h1, h3⟩
theorem IsN.mono {h h' : Heap} {k : NestedKey} {b : Addr} (x : IsN h k b) (e : ∀ c ob xs m, h.get? c = some ob → ob.data = .seq xs m → h'.get? c = some ob) : IsN h' k b := ⟨NestedIs.at e _ _ x.is, x.num, x.low⟩
theorem IsN.inj {h : Heap} {k k' : NestedKey} {b : Addr} (x : IsN h k b) (y : IsN h k' b) : k = k' := NestedIs.inj _ _ _ x.is y.is
variable {A : Around} {E : Value → Shared → Prop} {s : Shared}
theorem isN_eq {k k' : NestedKey} {b c : Addr} {Q : Bool → Shared → Prop} (x : IsN s.heap k b) (y : IsN s.heap k' c) (hu : A.units + 8 < cLine) (q : Q (decide (k = k')) s) : wpAny (model P w) A (eqBool (.ref b) (.ref c)) Q E s :=
  eqAt_key k k' A s _ _ x.is y.is (by have := x.low; omega) _ _ _ _ (by rw [← NestedKey.decide_eq]; exact q)
theorem isN_hash {k : NestedKey} {b : Addr} {Q : Int → Shared → Prop} (x : IsN s.heap k b) (hu : A.units + 8 < cLine) (q : Q (k.hash w) { s with toks := s.toks + k.draws }) : wpAny (model P w) A (pyHash (.ref b)) Q E s :=
  pyHash_key k _ A s Q x.is (by have := x.low; omega) q
/-- a search among such shows nothing -/
theorem isN_seen {k : NestedKey} {b : Addr} {Q : Bool → Shared → Prop} (x : IsN s.heap k b) {ys : List Value} (hy : ∀ y ∈ ys, ∃ k' c, y = Value.ref c ∧ IsN s.heap k' c) (q : Q false s) : wpAny (model P w) A (searchCouldBeSeen (.ref b) ys) Q E s := by
  unfold searchCouldBeSeen
  refine wpAny_bind (wpAny_forIn_list _ (fun left acc st => acc.1 = none ∧ st = s ∧ ∀ y ∈ left, ∃ k' c, y = Value.ref c ∧ IsN s.heap k' c) _ (fun v left acc st hst => ?_) (fun acc st hst => ?_) _ _ ⟨rfl, rfl, hy⟩)
  · obtain ⟨_, rfl, hall⟩ := hst
    obtain ⟨k', c, rfl, y⟩ := hall v List.mem_cons_self
    have more : ∀ y ∈ left, ∃ k' c, y = Value.ref c ∧ IsN st.heap k' c := fun u hu => hall u (List.mem_cons_of_mem _ hu)
    dsimp only
    by_cases z : (b == c || (carriedByValue (.ref b) && carriedByValue (.ref c))) = true
    · exact wp_if_pos z (wpAny_pure ⟨rfl, rfl, more⟩)
    · refine wp_if_neg z (wpAny_bind (quiet_key k _ 8 st x.is x.low _ _ _ ?_))
      simp only [Bool.not_true, Bool.false_eq_true, if_false]
      refine wpAny_bind (quiet_key k' _ 8 st y.is y.low _ _ _ ?_)
      simp only [Bool.not_true, Bool.false_eq_true, if_false]
      refine wpAny_bind (noCls_key k _ 8 st x.is x.num x.low _ _ _ ?_)
      simp only [Bool.false_eq_true, if_false]
      refine wpAny_bind (noCls_key k' _ 8 st y.is y.num y.low _ _ _ ?_)
      simp only [Bool.false_eq_true, if_false]
      exact wpAny_pure ⟨rfl, rfl, more⟩
  · obtain ⟨c1, c2⟩ := acc
    obtain ⟨h1, rfl, _⟩ := hst
    simp only at h1
    subst h1
    exact wpAny_pure q
end
end NS
namespace NS
open PySem PySem.Spec PyProof.Rows L2
abbrev Rw := Addr × NestedKey
abbrev hof (w : World) (r : Rw) : Int := NestedKey.hash w r.2
def ents (w : World) (R : List Rw) : List (Int × Value) := R.map fun r => (hof w r, Value.ref r.1)
/-- the set object at a holds the rows R -/
structure SetN (w : World) (h : Heap) (a : Addr) (R : List Rw) (es : Array (Int × Value)) (ep : Nat) (t : SetTable) : Prop where
  obj : ∃ ob, h.get? a = some ob ∧ ob.ExactSet ∧ ob.data = .set es ep t
  ent : es.toList = ents w R
  tab : TabOk t (R.map (hof w))
  once : (R.map Prod.snd).Nodup
  key : ∀ r ∈ R, IsN h r.2 r.1
  flat : t.plain = true
  seen : w.params.followText "set-order" = true ∨ t.led = true
  room : R.length * 5 < t.mask * 3
  few : R.length < 77
section
variable {P : Program} {w : World} {A : Around} {E : Value → Shared → Prop} {s : Shared} {a : Addr} {R : List Rw} {es : Array (Int × Value)} {ep : Nat} {t : SetTable}
theorem ents_len (R : List Rw) (es : Array (Int × Value)) (e : es.toList = ents w R) : es.size = R.length := by
  rw [← Array.length_toList, e]
  unfold ents
  rw [List.length_map]
theorem fits_of {n : Nat} (h1 : t.place.size = n) (h2 : t.dummies = #[]) (h3 : n ≤ t.mask) : t.fits n = true := by
  unfold SetTable.fits SetTable.fill
  rw [h2, Bool.and_eq_true, beq_iff_eq, decide_eq_true_eq]
  show t.place.size = n ∧ t.place.size + 0 ≤ t.mask
  omega
theorem SetN.size (S : SetN w s.heap a R es ep t) : es.size = R.length := ents_len R es S.ent
theorem SetN.psize (S : SetN w s.heap a R es ep t) : t.place.size = R.length := by
  have e := S.tab.sz
  rw [List.length_map] at e
  exact e
theorem SetN.fits (S : SetN w s.heap a R es ep t) : t.fits es.size = true := by
  have := S.room
  rw [S.size]
  exact fits_of S.psize S.tab.dm (by omega)
theorem SetN.at_ (S : SetN w s.heap a R es ep t) {i : Nat} {r : Rw} (h : R[i]? = some r) : es[i]? = some (hof w r, Value.ref r.1) := by
  have e : es.toList[i]? = some (hof w r, Value.ref r.1) := by
    rw [S.ent]
    unfold ents
    rw [List.getElem?_map, h]
    rfl
  rw [← Array.getElem?_toList]
  exact e
theorem SetN.way_ok (S : SetN w s.heap a R es ep t) : ¬ t.gaveWay = true := by
  unfold SetTable.gaveWay
  rw [mask_odd S.tab.mok]
  decide
theorem no_dummy (m : Nat) : ∀ (n : Nat) (p : SetTable.Probe), p.dummy = none → (nth m p n).dummy = none
  | 0, p, h => h
  | n + 1, p, h => no_dummy m n (adv m p) (by
    unfold adv
    split <;> exact h)
/-- the way of a hash, step by step -/
abbrev stp (t : SetTable) (g : Int) (c : Nat) : SetTable.Probe := nth t.mask (runAt t.mask (SetTable.bits g % (t.mask + 1)) (SetTable.bits g)) c
theorem stp_add (t : SetTable) (g : Int) (c q : Nat) : nth t.mask (stp t g c) q = stp t g (c + q) := (nth_add t.mask c _ q).symm
/-- the search, c steps on -/
theorem seek (S : SetN w s.heap a R es ep t) {b : Addr} {k : NestedKey} (x : IsN s.heap k b) (hu : A.units + 8 < cLine) {N : Nat} (hN : N < 10 * SetTable.turns t.mask) (free : (stp t (k.hash w) N).j ∉ t.place.toList) (full : ∀ c, c < N → (stp t (k.hash w) c).j ∈ t.place.toList) {Q : SetFound → Shared → Prop}
    (old : k ∈ R.map Prod.snd → Q (.there none) s) (new : k ∉ R.map Prod.snd → Q (.free (stp t (k.hash w) N).j false) s) :
    ∀ (fu c : Nat) (st : Option SetTable.Probe), st.getD (t.probeStart (k.hash w)) = stp t (k.hash w) c → c ≤ N → N - c < fu → (∀ (i : Nat) r, R[i]? = some r → r.2 = k → ∃ d, c ≤ d ∧ d < N ∧ t.place.toList[i]? = some (stp t (k.hash w) d).j) →
      wpAny (model P w) A (setSearchFrom a (.ref b) (k.hash w) true fu st) Q E s
  | 0, c, st, _, _, hf, _ => absurd hf (Nat.not_lt_zero _)
  | fu + 1, c, st, hst, hc, hf, ahead => by
    obtain ⟨ob, hob, hex, hda⟩ := S.obj
    have stored : ∀ (i : Nat) r, R[i]? = some r → (fun i => (es[i]?.map (·.1)).getD 0) i = hof w r := fun i r hr => by
      show (es[i]?.map (·.1)).getD 0 = _
      rw [S.at_ hr]
      rfl
    have jq : ∀ q, (nth t.mask (stp t (k.hash w) c) q).j = (stp t (k.hash w) (c + q)).j := fun q => congrArg SetTable.Probe.j (stp_add t _ c q)
    rw [setSearchFrom_succ]
    refine wpAny_bind (wpAny_setState_of hob hda S.fits ?_)
    dsimp only
    refine wp_if_neg S.way_ok ?_
    try refine wpAny_bind (wpAny_pure ?_)
    rcases go_spec t S.tab.ris S.tab.dm (fun i => (es[i]?.map (·.1)).getD 0) (k.hash w) (10 * SetTable.turns t.mask) (N - c) (stp t (k.hash w) c) (no_dummy _ _ _ rfl) (by omega) (fun q hq => by rw [jq]; exact full (c + q) (by omega)) (by rw [jq, show c + (N - c) = N by omega]; exact free) with ⟨q, i, hq, hi, hh, miss, run⟩ | ⟨miss, run⟩
    · rw [jq] at hi
      have run2 : t.probe (fun i => (es[i]?.map (·.1)).getD 0) (k.hash w) (st.getD (t.probeStart (k.hash w))) = some (.candidate (stp t (k.hash w) (c + q)).j i (stp t (k.hash w) (c + (q + 1)))) := by
        rw [hst, ← jq, ← stp_add t _ c (q + 1)]
        exact run
      rw [run2]
      dsimp only
      have il : i < R.length := by
        have := (List.getElem?_eq_some_iff.mp hi).1
        rw [Array.length_toList, S.psize] at this
        exact this
      obtain ⟨r, hr⟩ : ∃ r, R[i]? = some r := ⟨_, List.getElem?_eq_getElem il⟩
      have hm : r ∈ R := List.mem_of_getElem? hr
      have hsl : t.slot (stp t (k.hash w) (c + q)).j = .live i := slot_live S.tab.ris hi
      have rest : wpAny (model P w) A (searchRest a (.ref b) (k.hash w) true fu es t (stp t (k.hash w) (c + q)).j i (stp t (k.hash w) (c + (q + 1)))) Q E s := by
        unfold searchRest
        rw [S.at_ hr]
        dsimp only
        refine wpAny_bind (wpAny_holding (isN_eq (S.key r hm) x hu ?_))
        refine wpAny_bind (wpAny_setState_of hob hda S.fits ?_)
        dsimp only
        by_cases e : r.2 = k
        · exact wp_if_pos (by simp [e]) (wpAny_pure (old (List.mem_map.mpr ⟨r, hm, e⟩)))
        · refine wp_if_neg (by simp [e]) ?_
          try refine wpAny_bind (wpAny_pure ?_)
          rw [sameMem]
          dsimp only
          simp only [if_true, hsl, S.at_ hr]
          refine wpAny_bind (wpAny_isSame_ref_self (wpAny_bind (wpAny_pure ?_)))
          simp only [if_true]
          refine wp_if_neg (by simp [e]) ?_
          refine seek S x hu hN free full old new fu (c + (q + 1)) (some _) rfl (by omega) (by omega) fun i0 r0 h0 k0 => ?_
          obtain ⟨d, d1, d2, d3⟩ := ahead i0 r0 h0 k0
          refine ⟨d, ?_, d2, d3⟩
          have n1 : ¬ d < c + q := fun z => miss (d - c) i0 (by omega) (by rw [jq, show c + (d - c) = d by omega]; exact d3) ((stored i0 r0 h0).trans (congrArg (NestedKey.hash w) k0))
          have n2 : d ≠ c + q := fun z => by
            rw [z] at d3
            have s0 := slot_live S.tab.ris d3
            rw [hsl] at s0
            injection s0 with s0
            rw [← s0, hr] at h0
            exact e ((congrArg Prod.snd (Option.some.inj h0)).trans k0)
          omega
      by_cases hl : t.led = true
      · refine wp_if_neg (by simp [hl]) ?_
        try refine wpAny_bind (wpAny_pure ?_)
        exact rest
      · refine wp_if_pos (by simp [hl]) (wpAny_bind (isN_seen x (fun y hy => ?_) ?_))
        · obtain ⟨u, hu1, hu2⟩ := List.mem_map.mp hy
          have hu3 : u ∈ es ∧ u.1 = k.hash w := by simpa using hu1
          have hu4 : u ∈ es.toList := by simpa using hu3.1
          rw [S.ent] at hu4
          obtain ⟨r2, hr2, rfl⟩ := List.mem_map.mp hu4
          exact ⟨r2.2, r2.1, hu2.symm, S.key r2 hr2⟩
        · refine wp_if_neg (by decide) ?_
          try refine wpAny_bind (wpAny_pure ?_)
          exact rest
    · have run2 : t.probe (fun i => (es[i]?.map (·.1)).getD 0) (k.hash w) (st.getD (t.probeStart (k.hash w))) = some (.empty (stp t (k.hash w) N).j none) := by
        have e2 : (stp t (k.hash w) N).j = (nth t.mask (stp t (k.hash w) c) (N - c)).j := by rw [jq, show c + (N - c) = N by omega]
        rw [hst, e2]
        exact run
      rw [run2]
      dsimp only
      refine wpAny_pure (new fun z => ?_)
      obtain ⟨r0, m0, k0⟩ := List.mem_map.mp z
      obtain ⟨i0, l0, e0⟩ := List.getElem_of_mem m0
      have h0 : R[i0]? = some r0 := by rw [List.getElem?_eq_getElem l0, e0]
      obtain ⟨d, d1, d2, d3⟩ := ahead i0 r0 h0 k0
      exact miss (d - c) i0 (by omega) (by rw [jq, show c + (d - c) = d by omega]; exact d3) ((stored i0 r0 h0).trans (congrArg (NestedKey.hash w) k0))
/-- the search, as adding begins it -/
theorem sought (S : SetN w s.heap a R es ep t) {b : Addr} {k : NestedKey} (x : IsN s.heap k b) (hu : A.units + 8 < cLine) {Q : SetFound → Shared → Prop} (old : k ∈ R.map Prod.snd → Q (.there none) s)
    (new : ∀ N, k ∉ R.map Prod.snd → (stp t (k.hash w) N).j ∉ t.place.toList → (∀ c, c < N → (stp t (k.hash w) c).j ∈ t.place.toList) → Q (.free (stp t (k.hash w) N).j false) s) : wpAny (model P w) A (setSearch a (.ref b) (k.hash w) true) Q E s := by
  have hroom := S.room
  obtain ⟨N, hN, free, full⟩ := S.tab.first (by rw [List.length_map]; omega) (k.hash w)
  have small : N < 100000 := by
    have : 10 * SetTable.turns t.mask ≤ 1420 := by
      unfold SetTable.turns
      rcases S.tab.mok with e | e | e <;> omega
    omega
  unfold setSearch
  refine seek S x hu hN free full old (fun z => new N z free full) 100000 0 none rfl (Nat.zero_le _) (by omega) fun i r hr hk => ?_
  have hg : (R.map (hof w))[i]? = some (k.hash w) := by
    rw [List.getElem?_map, hr, ← hk]
    rfl
  have il : i < t.place.toList.length := by
    rw [Array.length_toList, S.psize]
    exact (List.getElem?_eq_some_iff.mp hr).1
  have hj := List.getElem?_eq_getElem il
  obtain ⟨c, hc, e⟩ := S.tab.before free hg hj
  exact ⟨c, Nat.zero_le _, hc, hj.trans (congrArg some e.symm)⟩
/-- what stands at another place than a changed set's -/
theorem IsN.other {h h' : Heap} {k : NestedKey} {b : Addr} {ob : Obj} (x : IsN h k b) (hob : h.get? a = some ob) (hda : ob.data = .set es ep t) (sb : Heap.SameBut a h h') : IsN h' k b := x.mono fun c oc xs m hc hd => by
  refine (sb.2 c fun z => ?_).trans hc
  rw [z, hob] at hc
  cases hc
  rw [hda] at hd
  cases hd
theorem ins_perm {α : Type} (l : List α) (p : Nat) (x : α) : (l.take p ++ x :: l.drop p).Perm (x :: l) := by
  have q := List.perm_middle (a := x) (l₁ := l.take p) (l₂ := l.drop p)
  rw [List.take_append_drop] at q
  exact q
/-- the rows in another order -/
theorem reorder (R : List Rw) (es : Array (Int × Value)) (ord : Array Nat) (he : es.toList = ents w R) (hp : ord.toList.Perm (List.range R.length)) :
    ∃ R2, (ord.filterMap (es[·]?)).toList = ents w R2 ∧ R2.Perm R ∧ R2.map (hof w) = ord.toList.map fun i => (es.map (·.1)).getD i 0 := by
  have sz := ents_len R es he
  have atE : ∀ i (h : i < R.length), es[i]? = some (hof w R[i], Value.ref (R[i]).1) := fun i h => by
    rw [← Array.getElem?_toList, he]
    unfold ents
    rw [List.getElem?_map, List.getElem?_eq_getElem h]
    rfl
  have go : ∀ l : List Nat, (∀ i ∈ l, i < R.length) → l.filterMap (fun i => es[i]?) = ents w (l.filterMap fun i => R[i]?) ∧ (l.filterMap fun i => R[i]?).map (hof w) = l.map fun i => (es.map (·.1)).getD i 0 := fun l => by
    induction l with
    | nil => exact fun _ => ⟨rfl, rfl⟩
    | cons i l ih =>
      intro hl
      have il := hl i List.mem_cons_self
      obtain ⟨e1, e2⟩ := ih fun j hj => hl j (List.mem_cons_of_mem _ hj)
      have g : (es.map (·.1)).getD i 0 = hof w R[i] := by
        have e5 : (es.map (·.1))[i]? = some (hof w R[i]) := by
          rw [Array.getElem?_map, atE i il]
          rfl
        simp [Array.getD_eq_getD_getElem?, e5]
      rw [List.filterMap_cons_some (atE i il), List.filterMap_cons_some (List.getElem?_eq_getElem il), e1, List.map_cons, List.map_cons, e2, g]
      exact ⟨rfl, rfl⟩
  obtain ⟨e1, e2⟩ := go ord.toList fun i hi => List.mem_range.mp (hp.mem_iff.mp hi)
  refine ⟨ord.toList.filterMap fun i => R[i]?, by first | (rw [Array.toList_filterMap]; exact e1) | simpa using e1, ?_, e2⟩
  have all : ∀ n, n ≤ R.length → (List.range n).filterMap (fun i => R[i]?) = R.take n := fun n => by
    induction n with
    | zero => exact fun _ => rfl
    | succ n ih =>
      intro hn
      rw [List.range_succ, List.filterMap_append, ih (by omega), List.take_succ, List.getElem?_eq_getElem (show n < R.length by omega), List.filterMap_cons_some (List.getElem?_eq_getElem (show n < R.length by omega))]
      rfl
  have q := hp.filterMap (fun i => R[i]?)
  rw [all R.length (Nat.le_refl _), List.take_length] at q
  exact q
/-- the table laid anew -/
theorem relaid {ob : Obj} (hob : s.heap.get? a = some ob) (hex : ob.ExactSet) (hda : ob.data = .set es ep t) (he : es.toList = ents w R) (ps : t.place.size = es.size) (nd : t.dummies = #[]) (fl : es.size ≤ t.mask) (once : (R.map Prod.snd).Nodup) (key : ∀ r ∈ R, IsN s.heap r.2 r.1) (flat : t.plain = true)
    (seen : w.params.followText "set-order" = true ∨ t.led = true) (few : R.length < 77) {want M : Nat} (hw : SetTable.sizeAbove want - 1 = M) (hM : MaskOk M) (hw2 : SetTable.sizeAbove want ≤ 128) (hn : R.length * 5 < M * 3) {Q : Unit → Shared → Prop}
    (q : ∀ h' R' es' ep' t', Heap.SameBut a s.heap h' → SetN w h' a R' es' ep' t' → R'.Perm R → Q () { s with heap := h' }) : wpAny (model P w) A (setRelay a want) Q E s := by
  have sz := ents_len R es he
  obtain ⟨t', ord, e, hp, tab, em, el, epl, ed⟩ := relaid_ok t (hs := es.map (·.1)) (wanted := want) hw hM (by rw [Array.size_map, sz]; omega)
  rw [Array.size_map, sz] at hp
  obtain ⟨R2, r1, r2, r3⟩ := reorder R es ord he hp
  rw [← r3] at tab
  have sz2 : (ord.filterMap (es[·]?)).size = es.size := by rw [ents_len R2 _ r1, r2.length_eq, sz]
  rw [setRelay_eq]
  refine wpAny_bind (wpAny_setState_of hob hda (fits_of ps nd fl) ?_)
  dsimp only
  refine wp_if_neg (by rw [sizeLine_eq]; omega) ?_
  try refine wpAny_bind (wpAny_pure ?_)
  rw [e]
  dsimp only
  refine wpAny_bind (wp_if_neg (by rw [sz2]; simp) ?_)
  try refine wpAny_bind (wpAny_pure ?_)
  refine wpAny_pure ?_
  dsimp only
  refine wpAny_storeSet_of hob hda ?_ (by rw [sz2, sz, sizeLine_eq]; omega)
  have sb : Heap.SameBut a s.heap (s.heap.update a (Obj.putSet (ord.filterMap (es[·]?)) t')) := Heap.SameBut.update ..
  exact q _ R2 _ (ep + 1) t' sb ⟨⟨_, store_at hob hda, ⟨hex.1, hex.2.1, hex.2.2⟩, rfl⟩, r1, tab, (r2.map Prod.snd).nodup_iff.mpr once, fun r hr => (key r (r2.mem_iff.mp hr)).other hob hda sb, by rw [epl]; exact flat, by rw [el]; exact seen, by rw [r2.length_eq, em]; exact hn, by rw [r2.length_eq]; exact few⟩ r2
end
end NS
namespace NS
open PySem PySem.Spec PyProof.Rows L2
section
variable {P : Program} {w : World} {A : Around} {E : Value → Shared → Prop} {s : Shared} {a : Addr} {R : List Rw} {es : Array (Int × Value)} {ep : Nat} {t : SetTable}
/-- one more -/
theorem added (S : SetN w s.heap a R es ep t) {b : Addr} {k : NestedKey} (x : IsN s.heap k b) (hu : A.units + 8 < cLine) (few1 : R.length + 1 < 77) {Q : Bool → Shared → Prop}
    (q : ∀ z h' R' es' ep' t', Heap.SameBut a s.heap h' → SetN w h' a R' es' ep' t' → (k ∈ R.map Prod.snd → R' = R) → (k ∉ R.map Prod.snd → R'.Perm ((b, k) :: R)) → Q z { s with heap := h' }) :
    wpAny (model P w) A (setAddHashed a (.ref b) (k.hash w)) Q E s := by
  obtain ⟨ob, hob, hex, hda⟩ := S.obj
  have sz := S.size
  have hroom := S.room
  unfold setAddHashed
  refine wpAny_holding ?_
  rw [show (100000 : Nat) = 99999 + 1 from rfl, setAddHashedIn_succ]
  refine wpAny_bind (wpAny_setState_of hob hda S.fits ?_)
  dsimp only
  refine wp_if_neg (by simp [byScan, Value.scannable]) ?_
  try refine wpAny_bind (wpAny_pure ?_)
  refine wpAny_bind (sought S x hu (fun hm => ?_) fun N hm free full => ?_)
  · dsimp only
    exact wpAny_pure (q false s.heap R es ep t (Heap.SameBut.refl a s.heap) S (fun _ => rfl) fun z => absurd hm z)
  · dsimp only
    refine wpAny_bind (wpAny_setState_of hob hda S.fits ?_)
    dsimp only
    obtain ⟨p1, p2, p3, p4, p5, p6, p7, p8, p9⟩ := S.tab.put free full
    have flat1 : (t.put (stp t (k.hash w) N).j).1.plain = true := by
      rw [show (t.put (stp t (k.hash w) N).j).1.plain = t.plain from p6]
      exact S.flat
    have e0 : t.put (way t.mask (k.hash w) N) = t.put (stp t (k.hash w) N).j := rfl
    rw [e0] at p1 p3 p4 p5 p6 p7 p8 p9
    generalize hput : t.put (stp t (k.hash w) N).j = pt at p1 p3 p4 p5 p6 p7 p8 p9 flat1 ⊢
    obtain ⟨t1, pl⟩ := pt
    dsimp only at p1 p3 p4 p5 p6 p7 p8 p9 flat1 ⊢
    subst p1
    have bv := byVal_key (P := P) (w := w) k _ 8 s x.is x.num x.low
    first
      | (refine wpAny_bind ?_; refine wp_if_pos flat1 ?_; refine bv _ _ _ ?_)
      | refine wp_if_pos flat1 (wpAny_bind (bv _ _ _ ?_))
    simp only [if_true]
    have ent1 : (SetTable.insertAt es (SetTable.below t.place (way t.mask (k.hash w) N)) (k.hash w, Value.ref b)).toList = ents w (R.take (SetTable.below t.place (way t.mask (k.hash w) N)) ++ (b, k) :: R.drop (SetTable.below t.place (way t.mask (k.hash w) N))) := by
      rw [SetTable.toList_insertAt, S.ent]
      unfold ents
      rw [List.map_append, List.map_cons, List.map_take, List.map_drop]
    generalize SetTable.below t.place (way t.mask (k.hash w) N) = pl at p2 p3 ent1 ⊢
    have pm := ins_perm R pl (b, k)
    have len1 : (R.take pl ++ (b, k) :: R.drop pl).length = R.length + 1 := pm.length_eq
    have tab1 : TabOk t1 ((R.take pl ++ (b, k) :: R.drop pl).map (hof w)) := by
      rw [List.map_append, List.map_cons, List.map_take, List.map_drop]
      exact p3
    have once1 : ((R.take pl ++ (b, k) :: R.drop pl).map Prod.snd).Nodup := by
      refine (pm.map Prod.snd).nodup_iff.mpr ?_
      rw [List.map_cons]
      exact List.nodup_cons.mpr ⟨hm, S.once⟩
    have sz1 := ents_len _ _ ent1
    rw [len1] at sz1
    generalize SetTable.insertAt es pl (k.hash w, Value.ref b) = es1 at ent1 sz1 ⊢
    generalize R.take pl ++ (b, k) :: R.drop pl = R1 at pm len1 tab1 once1 ent1
    refine wpAny_bind (wpAny_storeSet_of hob hda ?_ (by rw [sz1, sizeLine_eq]; omega))
    have sb : Heap.SameBut a s.heap (s.heap.update a (Obj.putSet es1 t1)) := Heap.SameBut.update ..
    have hob1 := store_at (es' := es1) (t' := t1) hob hda
    generalize s.heap.update a (Obj.putSet es1 t1) = h1 at sb hob1 ⊢
    have key1 : ∀ r ∈ R1, IsN h1 r.2 r.1 := fun r hr => by
      rcases List.mem_cons.mp (pm.mem_iff.mp hr) with rfl | hr
      · exact x.other hob hda sb
      · exact (S.key r hr).other hob hda sb
    have seen1 : w.params.followText "set-order" = true ∨ t1.led = true := by
      rw [p5]
      exact S.seen
    have fill1 : t1.fill = R.length + 1 := by
      rw [p9, List.length_map]
    have ps1 : t1.place.size = es1.size := by
      have z := tab1.sz
      rw [List.length_map, len1] at z
      rw [z, sz1]
    by_cases hf : t1.tooFull = true
    · first
        | (refine wpAny_bind ?_; refine wp_if_pos (by simp [hf]) ?_)
        | (refine wp_if_pos (by simp [hf]) ?_; refine wpAny_bind ?_)
      have full1 : (R.length + 1) * 5 ≥ t1.mask * 3 := by
        have z := hf
        unfold SetTable.tooFull at z
        rw [decide_eq_true_eq, fill1] at z
        exact z
      rw [sz]
      have two : (t.mask = 7 ∧ R.length = 4) ∨ (t.mask = 31 ∧ R.length = 18) := by
        rcases S.tab.mok with e | e | e
        · rw [p4, e] at full1
          rw [e] at hroom
          exact .inl ⟨e, by omega⟩
        · rw [p4, e] at full1
          rw [e] at hroom
          exact .inr ⟨e, by omega⟩
        · rw [p4, e] at full1
          omega
      have go : ∀ M, SetTable.sizeAbove (SetTable.grown (R.length + 1)) - 1 = M → MaskOk M → SetTable.sizeAbove (SetTable.grown (R.length + 1)) ≤ 128 → (R.length + 1) * 5 < M * 3 → wpAny (model P w) A (setRelay a (SetTable.grown (R.length + 1))) (fun _ s' => wpAny (model P w) A (pure true) Q E s') E { s with heap := h1 } := fun M m1 m2 m3 m4 =>
        relaid (s := { s with heap := h1 }) hob1 ⟨hex.1, hex.2.1, hex.2.2⟩ rfl ent1 ps1 tab1.dm (by rw [sz1, p4]; rcases two with ⟨e, e2⟩ | ⟨e, e2⟩ <;> omega) once1 key1 flat1 seen1 (by rw [len1]; exact few1) m1 m2 m3 (by rw [len1]; exact m4) fun h2 R2 es2 ep2 t2 sb2 S2 pm2 =>
          wpAny_pure (q true h2 R2 es2 ep2 t2 (sb.trans sb2) S2 (fun z => absurd z hm) fun _ => pm2.trans pm)
      rcases two with ⟨_, e2⟩ | ⟨_, e2⟩
      · exact go 31 (by rw [e2, size_20]) (.inr (.inl rfl)) (by rw [e2, size_20]; decide) (by omega)
      · exact go 127 (by rw [e2, size_76]) (.inr (.inr rfl)) (by rw [e2, size_76]; decide) (by omega)
    · first
        | refine wp_if_neg (by simp [hf]) ?_
        | (refine wpAny_bind ?_; refine wp_if_neg (by simp [hf]) ?_; refine wpAny_pure ?_)
      refine wpAny_pure (q true h1 R1 es1 (ep + 1) t1 sb ⟨⟨_, hob1, ⟨hex.1, hex.2.1, hex.2.2⟩, rfl⟩, ent1, tab1, once1, key1, flat1, seen1, ?_, by rw [len1]; exact few1⟩ (fun z => absurd z hm) fun _ => pm)
      have z := hf
      unfold SetTable.tooFull at z
      rw [decide_eq_true_eq, fill1] at z
      rw [len1]
      omega
/-- what the first i of them have given -/
structure Upto (ks : List Rw) (i : Nat) (R : List Rw) : Prop where
  from_ : ∀ r ∈ R, r ∈ ks.take i
  each : ∀ r ∈ ks.take i, r.2 ∈ R.map Prod.snd
  le : R.length ≤ i
theorem upto_next {ks R R' : List Rw} {i : Nat} {r : Rw} (g : Upto ks i R) (h : ks[i]? = some r) (c1 : r.2 ∈ R.map Prod.snd → R' = R) (c2 : r.2 ∉ R.map Prod.snd → R'.Perm (r :: R)) : Upto ks (i + 1) R' := by
  have tk : ks.take (i + 1) = ks.take i ++ [r] := by
    rw [List.take_succ, h]
    rfl
  by_cases hm : r.2 ∈ R.map Prod.snd
  · rw [c1 hm]
    refine ⟨fun u hu => ?_, fun u hu => ?_, Nat.le_succ_of_le g.le⟩
    · rw [tk]
      exact List.mem_append_left _ (g.from_ u hu)
    · rw [tk, List.mem_append, List.mem_singleton] at hu
      exact hu.elim (g.each u) fun z => z ▸ hm
  · have pm := c2 hm
    refine ⟨fun u hu => ?_, fun u hu => ?_, ?_⟩
    · rw [tk, List.mem_append, List.mem_singleton]
      exact (List.mem_cons.mp (pm.mem_iff.mp hu)).elim .inr fun z => .inl (g.from_ u z)
    · rw [(pm.map Prod.snd).mem_iff, List.map_cons, List.mem_cons]
      rw [tk, List.mem_append, List.mem_singleton] at hu
      exact hu.elim (fun z => .inr (g.each u z)) fun z => .inl (by rw [z])
    · rw [pm.length_eq, List.length_cons]
      exact Nat.succ_le_succ g.le
theorem IsN.keep {h h' : Heap} {k : NestedKey} {b : Addr} (x : IsN h k b) (e : ∀ c o, h.get? c = some o → h'.get? c = some o) : IsN h' k b := x.mono fun c o _ _ hc _ => e c o hc
theorem SetN.keep {h h' : Heap} (S : SetN w h a R es ep t) (ha : ∀ o, h.get? a = some o → h'.get? a = some o) (hk : ∀ r ∈ R, IsN h' r.2 r.1) : SetN w h' a R es ep t := by
  obtain ⟨ob, hob, rest⟩ := S.obj
  exact ⟨⟨ob, ha ob hob, rest⟩, S.ent, S.tab, S.once, hk, S.flat, S.seen, S.room, S.few⟩
abbrev emptySet (w : World) : Obj := { cls := .type "set", dict := none, data := .set #[] 0 (.fresh 0 0 (!w.params.followText "set-order")) }
theorem setN_new {h : Heap} {a : Addr} (hob : h.get? a = some (emptySet w)) : SetN w h a [] #[] 0 (.fresh 0 0 (!w.params.followText "set-order")) where
  obj := ⟨_, hob, ⟨rfl, rfl, rfl⟩, rfl⟩
  ent := rfl
  tab := ⟨List.Pairwise.nil, rfl, rfl, .inl rfl, fun x hx => (by cases hx), fun i h j hi => (by simp at hi)⟩
  once := List.nodup_nil
  key := fun p hp => (by cases hp)
  flat := rfl
  seen := by
    cases e : w.params.followText "set-order"
    · exact .inr rfl
    · exact .inl rfl
  room := by show 0 * 5 < 7 * 3; decide
  few := by show 0 < 77; decide
/-- the loop that takes one after the other -/
theorem taking {I : Addr} {fp wr : List Addr} {G : Array GenState → Array GenState → Prop} {n : Nat} {Pv : Nat → Value → Prop} {St : Nat → Shared → Prop} {Rs : Result → Shared → Prop} (W : WalksS P w A.in1 I fp wr G n Pv St) (C : Addr) (Cf : C ∉ fp) (ks : List Rw) (hn : n = ks.length) (few : ks.length < 77)
    (val : ∀ i v, Pv i v → ∃ r, ks[i]? = some r ∧ v = .ref r.1) (h0 : Heap) (key : ∀ r ∈ ks, IsN h0 r.2 r.1) (C0 : h0.get? C = none) (w0 : ∀ b ∈ wr, h0.get? b = none) (hu : A.in1.units + 8 < cLine) :
    ∀ (m i : Nat) (s : Shared), n - i = m → i ≤ n → St i s → (∀ b o, h0.get? b = some o → s.heap.get? b = some o) → (∃ R es ep t, SetN w s.heap C R es ep t ∧ Upto ks i R) →
      (∀ s' R es ep t, Moved (C :: wr) G s s' → SetN w s'.heap C R es ep t → Upto ks n R → (∀ b o, h0.get? b = some o → s'.heap.get? b = some o) → Rs (.ok (.ret .none)) s') →
      codeAny (model P w) A (.builtin "set.update.loop" ⟨[.ref C, .ref I], []⟩) Rs s := by
  have Cw : C ∉ wr := fun z => Cf (W.sub _ z)
  have into : ∀ b ∈ wr, b ∈ C :: wr := fun b z => List.mem_cons_of_mem _ z
  have stay : ∀ {s s' : Shared}, Moved wr G s s' → (∀ b o, h0.get? b = some o → s.heap.get? b = some o) → ∀ b o, h0.get? b = some o → s'.heap.get? b = some o := fun mv kp b o e =>
    mv.heap b o (fun z => by rw [w0 b z] at e; cases e) (kp b o e)
  intro m
  induction m with
  | zero =>
    intro i s hm hi hst kp ⟨R, es, ep, t, S, g⟩ hR
    obtain rfl : i = n := by omega
    refine codeAny_builtin F.entry_set_update_loop ?_
    rw [Around.under_plainId F.plain_set_update_loop _]
    show wpAny _ A.in1 (pyNext (.ref I) >>= _) _ _ s
    refine wpAny_bind (W.done s _ _ hst fun s' mv => ?_)
    show wpAny _ A.in1 (ret Value.none) _ _ s'
    have kp' := stay mv kp
    exact wpAny_pure (hR s' R es ep t (mv.mono into) (S.keep (fun o e => mv.heap C o Cw e) fun r hr => (key r (List.mem_of_mem_take (g.from_ r hr))).keep kp') g kp')
  | succ m ih =>
    intro i s hm hi hst kp ⟨R, es, ep, t, S, g⟩ hR
    have il : i < n := by omega
    refine codeAny_builtin F.entry_set_update_loop ?_
    rw [Around.under_plainId F.plain_set_update_loop _]
    show wpAny _ A.in1 (pyNext (.ref I) >>= _) _ _ s
    refine wpAny_bind (W.item i s _ _ il hst fun v s' hP hst' mv => ?_)
    obtain ⟨r, hr, rfl⟩ := val i v hP
    have kp' := stay mv kp
    have S' : SetN w s'.heap C R es ep t := S.keep (fun o e => mv.heap C o Cw e) fun u hu' => (key u (List.mem_of_mem_take (g.from_ u hu'))).keep kp'
    have x : IsN s'.heap r.2 r.1 := (key r (List.mem_of_getElem? hr)).keep kp'
    show wpAny _ A.in1 (holding [Value.ref r.1] (setAdd C (.ref r.1)) >>= _) _ _ s'
    refine wpAny_bind (wpAny_holding ?_)
    unfold setAdd
    refine wpAny_holding (wpAny_bind (isN_hash x hu ?_))
    refine added (s := { s' with toks := s'.toks + r.2.draws }) S' x hu (by have := g.le; omega) fun z h' R' es' ep' t' sb S2 c1 c2 => ?_
    have g' := upto_next g hr c1 c2
    have kp2 : ∀ b o, h0.get? b = some o → h'.get? b = some o := fun b o e => (sb.2 b (fun z => by rw [z, C0] at e; cases e)).trans (kp' b o e)
    refine wpAny_pure ⟨plainId_quiet F.plain_set_update_loop _, ih (i + 1) _ (by omega) il (W.frame _ s' _ _ hst' (Nat.le_add_right _ _) fun b hb o e => ?_) kp2 ⟨R', es', ep', t', S2, g'⟩ fun s'' R2 es2 ep2 t2 mv2 S3 g3 kp3 => ?_⟩
    · rw [sb.2 b (fun z : b = C => Cf (by rw [← z]; exact hb))]
      exact e
    · refine hR s'' R2 es2 ep2 t2 (Moved.trans W.gtrans ((mv.mono into).then_heap (Nat.le_add_right _ _) fun b o hb e => ?_) mv2) S3 g3 kp3
      rw [sb.2 b (fun z : b = C => hb (by rw [z]; exact List.mem_cons_self))]
      exact e
end
end NS
namespace NS
open PySem PySem.Spec PyProof.Rows L2
section
variable {P : Program} {w : World} {A : Around} {E : Value → Shared → Prop} {s : Shared} {a : Addr} {R : List Rw} {es : Array (Int × Value)} {ep : Nat} {t : SetTable}
abbrev Rks (ks : List Rw) : List Value := ks.map fun r => Value.ref r.1
theorem row_at {ks : List Rw} {vs : Array Value} (e : vs.toList = Rks ks) {i : Nat} {v : Value} (h : vs[i]? = some v) : ∃ r, ks[i]? = some r ∧ v = .ref r.1 := by
  have q : vs.toList[i]? = some v := by
    rw [Array.getElem?_toList]
    exact h
  rw [e, List.getElem?_map, Option.map_eq_some_iff] at q
  obtain ⟨r, h1, h2⟩ := q
  exact ⟨r, h1, h2.symm⟩
theorem beyond (s : Shared) (b : Addr) (h : s.heap.objs.size ≤ b) : s.heap.get? b = none := by
  cases q : s.heap.get? b with
  | none => rfl
  | some o =>
    exact absurd (Nat.lt_of_lt_of_le (Heap.lt_size q) h) (Nat.lt_irrefl _)
set_option maxHeartbeats 6400000 in
/-- set(xs), xs a list of such -/
theorem set_of {l : Addr} {vs : Array Value} (ks : List Rw) {Q : Value → Shared → Prop} (hh : A.handled = none) (hl : s.heap.IsList l vs) (hv : vs.toList = Rks ks) (key : ∀ r ∈ ks, IsN s.heap r.2 r.1) (few : ks.length < 77) (hu : A.units + 11 < cLine)
    (q : ∀ (h' : Heap) (tk : Nat) R es ep t, SetN w h' s.heap.objs.size R es ep t → Upto ks ks.length R → (∀ b o, s.heap.get? b = some o → h'.get? b = some o) → Q (.ref s.heap.objs.size) { s with heap := h', toks := tk }) :
    wpAny (model P w) A (call (.type "set") [.ref l]) Q E s := by
  have nvs : vs.size = ks.length := by rw [← Array.length_toList, hv, List.length_map]
  obtain ⟨c, tl, hmro⟩ := F.called_set.mro
  have hmade := F.called_set.made
  have hsub := F.called_set.sub
  have f1 := F.called_set.notType
  have f2 := F.called_set.canCreate
  have f3 := F.typeCall_set_1 (.ref l)
  refine wpAny_call (codeAny_of_tree (show wpAny _ _ (callAny (.type "set") _) _ _ _ from wpAny_pure ⟨Code.quiet_builtin _ (by decide +kernel), codeAny_builtin F.entry_type_call ?_⟩))
  rw [Around.under_plain (weight_type_call_type "set" [.ref l] []) rfl]
  repeat (any_goals (first | assumption | wp_step))
  refine codeAny_mono (code_set_led1 (.ref l) (E := E) (Q₁ := fun ob st => ob = .ref s.heap.objs.size ∧ st = { s with heap := s.heap.push (emptySet w) }) ⟨rfl, rfl⟩) fun r st hr => ?_
  match r, hr with
  | .ok (.ret ob), hr =>
    obtain ⟨rfl, rfl⟩ := hr
    have new : (s.heap.push (emptySet w)).get? s.heap.objs.size = some (emptySet w) := Heap.get?_push_size _ rfl
    have ty : Shared.TypeIs { s with heap := s.heap.push (emptySet w) } (.ref s.heap.objs.size) "set" := ⟨_, new, rfl⟩
    have g1 := F.called_set.init.lookup
    have g2 := F.called_set.init.bind (.ref s.heap.objs.size)
    repeat (any_goals (first | assumption | wp_step))
    refine codeAny_mono (codeAny_call_builtin (R := wants (fun r st => r = .none ∧ ∃ h' tk R es ep t, st = { s with heap := h', toks := tk } ∧ SetN w h' s.heap.objs.size R es ep t ∧ Upto ks ks.length R ∧ (∀ b o, s.heap.get? b = some o → h'.get? b = some o)) E) F.called_set.init.plain F.entry_set_init (check_set_init_1 ty ?_)) fun r2 st2 hr2 => ?_
    · obtain ⟨ol, hol, hcl, nl, hdl⟩ := hl
      obtain ⟨ocls, odict, odata, oslots⟩ := ol
      simp only at hcl hdl
      subst hcl; subst hdl
      have k1 := F.sub_list_set
      have k2 := F.sub_list_frozenset
      have k3 : (Value.type "list" == Value.type "dict") = false := by decide
      have hol' : (s.heap.push (emptySet w)).get? l = some { cls := .type "list", dict := odict, data := .seq vs nl, slots := oslots } := Heap.get?_push_of_some _ hol
      have hl1 : (s.heap.push (emptySet w)).IsList l vs := ⟨_, hol', rfl, nl, rfl⟩
      have ll := Heap.lt_size hol
      unfold Builtin.«set.__init__» noKeywords Builtin.Frozenset.updateFrom
      generalize hPI : pyIter = PI
      wp_walk
      subst hPI
      refine wpAny_pyIter_list hl1 (wpAny_bind (wpAny_runValue ?_))
      have psz : (s.heap.push (emptySet w)).objs.size = s.heap.objs.size + 1 := Heap.size_push ..
      have h3 : A.in1.in1.in1.handled = none := by simp [hh]
      refine taking ((Walks.list h3 _ l (by rw [psz]; exact Nat.ne_of_lt (Nat.lt_succ_of_lt ll)) vs).toS) s.heap.objs.size (by
        rw [psz]
        simp only [List.mem_cons, List.mem_singleton, List.not_mem_nil, or_false, not_or]
        exact ⟨Nat.ne_of_lt (Nat.lt_succ_self _), Nat.ne_of_gt ll⟩) ks nvs few (fun i v h => row_at hv h) s.heap key (beyond s _ (Nat.le_refl _)) (fun b hb => beyond s b (by
        rw [List.mem_singleton.mp hb, psz]
        exact Nat.le_succ _)) (by
        simp only [Around.in1_units]
        omega) (vs.size - 0) 0 _ (by omega) (Nat.zero_le _) ⟨⟨_, Heap.get?_push_size _ rfl, rfl, rfl⟩, hl1.push _⟩ (fun b o e => Heap.get?_push_of_some _ (Heap.get?_push_of_some _ e)) ⟨[], #[], 0, _, setN_new (Heap.get?_push_of_some _ new), ⟨fun r h => (by cases h), fun r h => (by simp at h), Nat.le_refl _⟩⟩ fun s' R es ep t mv S g kp => ?_
      obtain ⟨h', g2, d', tk', os'⟩ := s'
      have z1 : g2 = s.gens := mv.gens
      have z2 : d' = s.drawn := mv.drawn
      have z3 : os' = s.os := mv.os
      subst z1; subst z2; subst z3
      rw [nvs] at g
      show wpAny _ _ _ _ _ _
      refine wpAny_pure ?_
      show wpAny _ _ (ret Value.none) _ _ _
      exact wpAny_pure ⟨rfl, h', tk', R, es, ep, t, rfl, S, g, kp⟩
    · match r2, hr2 with
      | .ok (.ret v), hr2 =>
        obtain ⟨rfl, h', tk, R, es, ep, t, rfl, S, g, kp⟩ := hr2
        repeat (any_goals (first | assumption | wp_step))
        exact q _ _ _ _ _ _ S g kp
      | .error e, hr2 => exact hr2
      | .ok .next, hr2 => exact hr2.elim
      | .ok .brk, hr2 => exact hr2.elim
      | .ok .cont, hr2 => exact hr2.elim
  | .error e, hr => exact hr
  | .ok .next, hr => exact hr.elim
  | .ok .brk, hr => exact hr.elim
  | .ok .cont, hr => exact hr.elim
end
end NS
namespace NS
open PySem PySem.Spec PyProof.Rows L2 PySem.W
mutual
def numD : PyData → Bool
  | .int _ => true
  | .tuple xs => numDs xs
  | .none => false
  | .bool _ => false
  | .str _ => false
  | .list _ => false
  | .dict _ => false
def numDs : List PyData → Bool
  | [] => true
  | x :: xs => numD x && numDs xs
end
mutual
def nk : PyData → NestedKey
  | .int i => .num i
  | .tuple xs => .tup (nks xs)
  | .none => .none
  | .bool _ => .none
  | .str _ => .none
  | .list _ => .none
  | .dict _ => .none
def nks : List PyData → List NestedKey
  | [] => []
  | x :: xs => nk x :: nks xs
end
mutual
theorem nk_data : ∀ d : PyData, numD d = true → (nk d).data = d
  | .int i, _ => by unfold nk NestedKey.data; rfl
  | .tuple xs, h => by
    unfold numD at h
    unfold nk NestedKey.data
    rw [nks_data xs h]
  | .none, h => by unfold numD at h; cases h
  | .bool _, h => by unfold numD at h; cases h
  | .str _, h => by unfold numD at h; cases h
  | .list _, h => by unfold numD at h; cases h
  | .dict _, h => by unfold numD at h; cases h
theorem nks_data : ∀ ds : List PyData, numDs ds = true → NestedKey.datas (nks ds) = ds
  | [], _ => by unfold nks NestedKey.datas; rfl
  | d :: ds, h => by
    unfold numDs at h
    rw [Bool.and_eq_true] at h
    unfold nks NestedKey.datas
    rw [nk_data d h.1, nks_data ds h.2]
end
theorem nk_inj {d e : PyData} (hd : numD d = true) (he : numD e = true) (h : nk d = nk e) : d = e := by
  rw [← nk_data d hd, ← nk_data e he, h]
mutual
theorem nk_num : ∀ d : PyData, numD d = true → onlyNum (nk d) = true
  | .int i, _ => by unfold nk onlyNum; rfl
  | .tuple xs, h => by
    unfold numD at h
    unfold nk onlyNum
    exact nks_num xs h
  | .none, h => by unfold numD at h; cases h
  | .bool _, h => by unfold numD at h; cases h
  | .str _, h => by unfold numD at h; cases h
  | .list _, h => by unfold numD at h; cases h
  | .dict _, h => by unfold numD at h; cases h
theorem nks_num : ∀ ds : List PyData, numDs ds = true → onlyNums (nks ds) = true
  | [], _ => by unfold nks onlyNums; rfl
  | d :: ds, h => by
    unfold numDs at h
    rw [Bool.and_eq_true] at h
    unfold nks onlyNums
    rw [nk_num d h.1, nks_num ds h.2]
    rfl
end
mutual
theorem nk_depth : ∀ d : PyData, numD d = true → (nk d).depth = d.depth
  | .int i, _ => by unfold nk NestedKey.depth PyData.depth; rfl
  | .tuple xs, h => by
    unfold numD at h
    unfold nk NestedKey.depth PyData.depth
    rw [nks_depth xs h]
  | .none, h => by unfold numD at h; cases h
  | .bool _, h => by unfold numD at h; cases h
  | .str _, h => by unfold numD at h; cases h
  | .list _, h => by unfold numD at h; cases h
  | .dict _, h => by unfold numD at h; cases h
theorem nks_depth : ∀ ds : List PyData, numDs ds = true → NestedKey.depthAll (nks ds) = PyData.depthAll ds
  | [], _ => by unfold nks NestedKey.depthAll PyData.depthAll; rfl
  | d :: ds, h => by
    unfold numDs at h
    rw [Bool.and_eq_true] at h
    unfold nks NestedKey.depthAll PyData.depthAll
    rw [nk_depth d h.1, nks_depth ds h.2]
end
mutual
theorem reads_nk {h : Heap} : ∀ (d : PyData) (v : Value) (as : List Addr), Reads h v d as → numD d = true → NestedIs h (nk d) v ∧ as = []
  | .int i, _, _, r, _ => by
    cases r
    unfold nk
    exact ⟨.int _ _, rfl⟩
  | .tuple xs, _, _, r, hn => by
    cases r with
    | tuple h1 h2 h3 h4 =>
      unfold numD at hn
      obtain ⟨q1, q2⟩ := readsAll_nk xs _ _ h4 hn
      unfold nk
      exact ⟨.tup h1 h2 h3 q1, q2⟩
  | .none, _, _, _, h => by unfold numD at h; cases h
  | .bool _, _, _, _, h => by unfold numD at h; cases h
  | .str _, _, _, _, h => by unfold numD at h; cases h
  | .list _, _, _, _, h => by unfold numD at h; cases h
  | .dict _, _, _, _, h => by unfold numD at h; cases h
theorem readsAll_nk {h : Heap} : ∀ (ds : List PyData) (vs : List Value) (as : List Addr), ReadsAll h vs ds as → numDs ds = true → NestedAll h (nks ds) vs ∧ as = []
  | [], _, _, r, _ => by
    cases r
    unfold nks
    exact ⟨.nil, rfl⟩
  | d :: ds, _, _, r, hn => by
    cases r with
    | cons h1 h2 =>
      unfold numDs at hn
      rw [Bool.and_eq_true] at hn
      obtain ⟨q1, q2⟩ := reads_nk d _ _ h1 hn.1
      obtain ⟨q3, q4⟩ := readsAll_nk ds _ _ h2 hn.2
      unfold nks
      exact ⟨.cons q1 q3, by rw [q2, q4]; rfl⟩
end
/-- a tuple of numbers, nested, not empty -/
structure NumT (d : PyData) : Prop where
  num : numD d = true
  ne : ∃ x xs, d = .tuple (x :: xs)
  low : d.depth ≤ 8
mutual
theorem reads_keep {h h' : Heap} (e : ∀ b o, h.get? b = some o → h'.get? b = some o) : ∀ (d : PyData) (v : Value) (as : List Addr), Reads h v d as → numD d = true → Reads h' v d as
  | .int i, _, _, r, _ => by
    cases r
    exact .int _ _
  | .tuple xs, _, _, r, hn => by
    cases r with
    | tuple h1 h2 h3 h4 =>
      unfold numD at hn
      exact .tuple (e _ _ h1) h2 h3 (readsAll_keep e xs _ _ h4 hn)
  | .none, _, _, _, h => by unfold numD at h; cases h
  | .bool _, _, _, _, h => by unfold numD at h; cases h
  | .str _, _, _, _, h => by unfold numD at h; cases h
  | .list _, _, _, _, h => by unfold numD at h; cases h
  | .dict _, _, _, _, h => by unfold numD at h; cases h
theorem readsAll_keep {h h' : Heap} (e : ∀ b o, h.get? b = some o → h'.get? b = some o) : ∀ (ds : List PyData) (vs : List Value) (as : List Addr), ReadsAll h vs ds as → numDs ds = true → ReadsAll h' vs ds as
  | [], _, _, r, _ => by
    cases r
    exact .nil
  | d :: ds, _, _, r, hn => by
    cases r with
    | cons h1 h2 =>
      unfold numDs at hn
      rw [Bool.and_eq_true] at hn
      exact .cons (reads_keep e d _ _ h1 hn.1) (readsAll_keep e ds _ _ h2 hn.2)
end
/-- rows by their data -/
abbrev Rd := Addr × PyData
abbrev keyed (L : List Rd) : List Rw := L.map fun r => (r.1, nk r.2)
structure RowsOk (h : Heap) (L : List Rd) : Prop where
  num : ∀ r ∈ L, NumT r.2
  reads : ∀ r ∈ L, ∃ as, Reads h (.ref r.1) r.2 as
theorem RowsOk.key {h : Heap} {L : List Rd} (o : RowsOk h L) : ∀ r ∈ keyed L, IsN h r.2 r.1 := fun r hr => by
  obtain ⟨u, hu, rfl⟩ := List.mem_map.mp hr
  obtain ⟨as, q⟩ := o.reads u hu
  have n := o.num u hu
  exact ⟨(reads_nk _ _ _ q n.num).1, nk_num _ n.num, by rw [nk_depth _ n.num]; exact n.low⟩
theorem RowsOk.keep {h h' : Heap} {L : List Rd} (o : RowsOk h L) (e : ∀ b ob, h.get? b = some ob → h'.get? b = some ob) : RowsOk h' L := ⟨o.num, fun r hr => by
  obtain ⟨as, q⟩ := o.reads r hr
  exact ⟨as, reads_keep e _ _ _ q (o.num r hr).num⟩⟩
section
variable {P : Program} {w : World} {A : Around} {E : Value → Shared → Prop} {s : Shared} {a : Addr} {es : Array (Int × Value)} {ep : Nat} {t : SetTable}
theorem unkey (ks : List Rd) : ∀ R : List Rw, (∀ r ∈ R, r ∈ keyed ks) → ∃ L : List Rd, R = keyed L ∧ ∀ r ∈ L, r ∈ ks
  | [], _ => ⟨[], rfl, fun r h => nomatch h⟩
  | r :: R, h => by
    obtain ⟨L, rfl, e⟩ := unkey ks R fun u hu => h u (List.mem_cons_of_mem _ hu)
    obtain ⟨u, hu, rfl⟩ := List.mem_map.mp (h r List.mem_cons_self)
    exact ⟨u :: L, rfl, fun v hv => (List.mem_cons.mp hv).elim (fun z => z ▸ hu) (e v)⟩
abbrev leD : Rd → Rd → Bool := dataLe false fun r : Rd => r.2
/-- sorted(a set of such) -/
theorem sorted_of {L : List Rd} {Q : Value → Shared → Prop} (S : SetN w s.heap a (keyed L) es ep t) (ok : RowsOk s.heap L) (al : AllAlike (L.map Prod.snd)) (hh : A.handled = none) (hu : A.units + 20 < cLine)
    (q : ∀ s' p (out : Array Value) (c : Nat) (L' : List Rd), (∀ b o, s.heap.get? b = some o → s'.heap.get? b = some o) → s'.gens = s.gens → s'.os = s.os → s.heap.objs.size ≤ p → s'.heap.get? p = some (seqObj "list" out c) → out.toList = L'.map (fun r => Value.ref r.1) → L'.Perm L → L'.Pairwise (fun x y => leD x y = true) → Q (.ref p) s') :
    wpAny (model P w) A (call (.builtin "sorted") [.ref a]) Q E s := by
  obtain ⟨ob, hob, hex, hda⟩ := S.obj
  have sz := S.size
  have few := S.few
  have len : (keyed L).length = L.length := List.length_map ..
  rw [len] at few sz
  refine Calls.call_function_entry kind_sorted plain_sorted entry_sorted (args_sorted1 _) ?_
  unfold Builtin.«sorted»
  refine wpAny_bind (m := checkCount "sorted" 1 1 _) (wpAny_pure ?_)
  refine wpAny_bind (collect_set (A := A.in1) hh ⟨ob, hob, hex.1, hda⟩ S.fits (by unfold scanBound; omega) S.tab.ris S.seen fun s1 vs k1 hz g1 o1 pm => ?_)
  have evs : es.toList.map (·.2) = L.map fun r => Value.ref r.1 := by
    rw [S.ent]
    unfold ents
    rw [List.map_map, List.map_map]
    rfl
  rw [evs] at pm
  -- in which order they come
  have ord : ∃ L1 : List Rd, vs = L1.map (fun r => Value.ref r.1) ∧ L1.Perm L := by
    have go : ∀ (vs : List Value) (M : List Rd), vs.Perm (M.map fun r => Value.ref r.1) → ∃ L1 : List Rd, vs = L1.map (fun r => Value.ref r.1) ∧ L1.Perm M := by
      intro vs
      induction vs with
      | nil =>
        intro M hM
        have : M = [] := List.map_eq_nil_iff.mp (List.Perm.eq_nil hM.symm)
        exact ⟨[], rfl, by rw [this]⟩
      | cons v vs ih =>
        intro M hM
        obtain ⟨r, hr, e⟩ := List.mem_map.mp (hM.mem_iff.mp List.mem_cons_self)
        obtain ⟨M1, M2, rfl⟩ := List.append_of_mem hr
        have pM : (M1 ++ r :: M2).Perm (r :: (M1 ++ M2)) := List.perm_middle
        have q1 : (v :: vs).Perm (Value.ref r.1 :: (M1 ++ M2).map fun r => Value.ref r.1) := hM.trans (pM.map _)
        rw [e] at q1
        obtain ⟨L1, e1, p1⟩ := ih (M1 ++ M2) q1.cons_inv
        exact ⟨r :: L1, by rw [List.map_cons, e, e1], (List.Perm.cons r p1).trans pM.symm⟩
    exact go vs L pm
  obtain ⟨L1, rfl, p1⟩ := ord
  have l1 := p1.length_eq
  refine wpAny_bind (wpAny_newList ?_ (by rw [sizeLine_eq, List.length_map]; omega))
  have hoL : (s1.heap.push (seqObj "list" (L1.map fun r => Value.ref r.1).toArray 0)).get? s1.heap.objs.size = some (seqObj "list" (L1.map fun r => Value.ref r.1).toArray 0) := Heap.get?_push_size _ rfl
  have kp : ∀ b o, s.heap.get? b = some o → (s1.heap.push (seqObj "list" (L1.map fun r => Value.ref r.1).toArray 0)).get? b = some o := fun b o e => Heap.get?_push_of_some _ (k1 b o e)
  have ok1 := ok.keep kp
  have e1 : EachIs (fun v (r : Rd) => v = Value.ref r.1) (L1.map fun r => Value.ref r.1) L1 := by
    have go : ∀ M : List Rd, EachIs (fun v (r : Rd) => v = Value.ref r.1) (M.map fun r => Value.ref r.1) M := fun M => by
      induction M with
      | nil => exact .nil
      | cons r M ih => exact .cons rfl ih
    exact go L1
  have e2 : EachIs (fun v (r : Rd) => ∃ as, Reads (s1.heap.push (seqObj "list" (L1.map fun r => Value.ref r.1).toArray 0)) v r.2 as ∧ s1.heap.objs.size ∉ as) (L1.map fun r => Value.ref r.1) L1 := by
    have go : ∀ M : List Rd, (∀ r ∈ M, r ∈ L) → EachIs (fun v (r : Rd) => ∃ as, Reads (s1.heap.push (seqObj "list" (L1.map fun r => Value.ref r.1).toArray 0)) v r.2 as ∧ s1.heap.objs.size ∉ as) (M.map fun r => Value.ref r.1) M := fun M => by
      induction M with
      | nil => exact fun _ => .nil
      | cons r M ih =>
        intro hM
        have hr := hM r List.mem_cons_self
        obtain ⟨as, h1⟩ := ok1.reads r hr
        have h2 := (reads_nk _ _ _ h1 (ok1.num r hr).num).2
        exact .cons ⟨as, h1, by rw [h2]; exact List.not_mem_nil⟩ (ih fun u hu => hM u (List.mem_cons_of_mem _ hu))
    exact go L1 fun r hr => p1.mem_iff.mp hr
  have inL : ∀ d ∈ L1.map Prod.snd, d ∈ L.map Prod.snd := fun d hd => (p1.map Prod.snd).mem_iff.mp hd
  refine wpAny_bind (wpAny_holding (list_sort_data (s := { s1 with heap := s1.heap.push (seqObj "list" (L1.map fun r => Value.ref r.1).toArray 0) }) (enc := fun r : Rd => r.2) hoL e1 e2 (fun d hd d' hd' => al d (inL d hd) d' (inL d' hd')) (.inl fun d hd => ?_) (by rw [sizeLine_eq]; omega) (fun r hr => ?_) fun out _ eo => ?_))
  · obtain ⟨r, hr, rfl⟩ := List.mem_map.mp (inL d hd)
    exact (ok.num r hr).ne
  · have := (ok.num r (p1.mem_iff.mp hr)).low
    simp only [Around.in1_units]
    omega
  · obtain ⟨c, hc⟩ := sortedHeap_at (vs := L1.map fun r => Value.ref r.1) (out := List.toArray out) hoL
    have eout : out = (L1.mergeSort leD).map fun r => Value.ref r.1 := by
      have go : ∀ {o : List Value} {M : List Rd}, EachIs (fun v (r : Rd) => v = Value.ref r.1) o M → o = M.map fun r => Value.ref r.1 := fun {o M} h => by
        induction h with
        | nil => rfl
        | cons h1 _ ih => rw [List.map_cons, h1, ih]
      exact go eo
    have T := sortLe_total (listOrd itemOrd) false fun r : Rd => keyToks r.2
    refine wpAny_pure ⟨_, rfl, q _ s1.heap.objs.size (List.toArray out) c (L1.mergeSort leD) (fun b o e => ?_) g1 o1 hz hc (by rw [List.toList_toArray]; exact eout) ((List.mergeSort_perm L1 leD).trans p1) (List.pairwise_mergeSort T.trans (fun a b => by rw [Bool.or_eq_true]; exact T.total a b) L1)⟩
    have q1 := k1 b o e
    have lt := Heap.lt_size q1
    show (sortedHeap (s1.heap.push (seqObj "list" (L1.map fun r => Value.ref r.1).toArray 0)) s1.heap.objs.size (L1.map fun r => Value.ref r.1) (List.toArray out)).get? b = some o
    rw [sortedHeap_old (Nat.ne_of_lt lt) (by rw [size_push']; exact Nat.lt_succ_of_lt lt)]
    exact Heap.get?_push_of_some _ q1
end
end NS
namespace NS
open PySem PySem.Spec PyProof.Rows L2 PySem.W
mutual
theorem toks_inj : ∀ (x y : PyData), numD x = true → numD y = true → alike x y = true → ∀ l m, keyToks x ++ l = keyToks y ++ m → x = y ∧ l = m
  | .int i, .int j, _, _, _, l, m, h => by
    unfold keyToks at h
    obtain ⟨h1, h2⟩ := List.cons.inj h
    cases h1
    exact ⟨rfl, h2⟩
  | .tuple xs, .tuple ys, hx, hy, ha, l, m, h => by
    unfold numD at hx hy
    unfold alike at ha
    unfold keyToks at h
    obtain ⟨h1, h2⟩ := toksAll_inj xs ys hx hy ha l m h
    exact ⟨by rw [h1], h2⟩
  | .int _, .tuple _, _, _, ha, _, _, _ => by simp [alike] at ha
  | .tuple _, .int _, _, _, ha, _, _, _ => by simp [alike] at ha
  | .none, _, hx, _, _, _, _, _ => by unfold numD at hx; cases hx
  | .bool _, _, hx, _, _, _, _, _ => by unfold numD at hx; cases hx
  | .str _, _, hx, _, _, _, _, _ => by unfold numD at hx; cases hx
  | .list _, _, hx, _, _, _, _, _ => by unfold numD at hx; cases hx
  | .dict _, _, hx, _, _, _, _, _ => by unfold numD at hx; cases hx
  | _, .none, _, hy, _, _, _, _ => by unfold numD at hy; cases hy
  | _, .bool _, _, hy, _, _, _, _ => by unfold numD at hy; cases hy
  | _, .str _, _, hy, _, _, _, _ => by unfold numD at hy; cases hy
  | _, .list _, _, hy, _, _, _, _ => by unfold numD at hy; cases hy
  | _, .dict _, _, hy, _, _, _, _ => by unfold numD at hy; cases hy
theorem toksAll_inj : ∀ (xs ys : List PyData), numDs xs = true → numDs ys = true → alikeAll xs ys = true → ∀ l m, keyToksAll xs ++ l = keyToksAll ys ++ m → xs = ys ∧ l = m
  | [], [], _, _, _, l, m, h => by
    unfold keyToksAll at h
    exact ⟨rfl, (List.cons.inj h).2⟩
  | [], y :: ys, _, _, _, l, m, h => by
    unfold keyToksAll at h
    have z : (Sum.inl 0 : Int ⊕ List Nat) = .inl 1 := (List.cons.inj h).1
    simp at z
  | x :: xs, [], _, _, _, l, m, h => by
    unfold keyToksAll at h
    have z : (Sum.inl 1 : Int ⊕ List Nat) = .inl 0 := (List.cons.inj h).1
    simp at z
  | x :: xs, y :: ys, hx, hy, ha, l, m, h => by
    unfold numDs at hx hy
    rw [Bool.and_eq_true] at hx hy
    unfold alikeAll at ha
    rw [Bool.and_eq_true] at ha
    unfold keyToksAll at h
    have h : (keyToks x ++ keyToksAll xs) ++ l = (keyToks y ++ keyToksAll ys) ++ m := (List.cons.inj h).2
    rw [List.append_assoc, List.append_assoc] at h
    obtain ⟨e1, h2⟩ := toks_inj x y hx.1 hy.1 ha.1 _ _ h
    obtain ⟨e2, h3⟩ := toksAll_inj xs ys hx.2 hy.2 ha.2 _ _ h2
    exact ⟨by rw [e1, e2], h3⟩
end
theorem lt_irr (x : PyData) : dataLt x x = false := (listOrd itemOrd).irrefl _
theorem lt_trans' {x y z : PyData} (h : dataLt x y = true) (h2 : dataLt y z = true) : dataLt x z = true := (listOrd itemOrd).trans _ _ _ h h2
theorem lt_tri {x y : PyData} (hx : numD x = true) (hy : numD y = true) (ha : alike x y = true) (h1 : dataLt x y = false) (h2 : dataLt y x = false) : x = y :=
  (toks_inj x y hx hy ha [] [] (by
    rw [List.append_nil, List.append_nil]
    exact (listOrd itemOrd).total _ _ h1 h2)).1
/-- into its place, once -/
def insP (d : PyData) : List PyData → List PyData
  | [] => [d]
  | x :: xs => if dataLt d x then d :: x :: xs else if dataLt x d then x :: insP d xs else x :: xs
def sortU (ds : List PyData) : List PyData := ds.foldr insP []
/-- numbers alone, all alike -/
structure Alk (ds : List PyData) : Prop where
  num : ∀ d ∈ ds, numD d = true
  al : AllAlike ds
theorem Alk.sub {ds es : List PyData} (h : Alk ds) (s : ∀ e ∈ es, e ∈ ds) : Alk es := ⟨fun e he => h.num e (s e he), fun e he f hf => h.al e (s e he) f (s f hf)⟩
theorem insP_mem {d y : PyData} : ∀ {xs : List PyData}, Alk (d :: xs) → (y ∈ insP d xs ↔ y = d ∨ y ∈ xs)
  | [], _ => by
    unfold insP
    simp
  | x :: xs, h => by
    unfold insP
    have hx : x ∈ d :: x :: xs := List.mem_cons_of_mem _ (List.mem_cons_self ..)
    by_cases h1 : dataLt d x = true
    · rw [if_pos h1, List.mem_cons]
    · rw [if_neg h1]
      by_cases h2 : dataLt x d = true
      · rw [if_pos h2, List.mem_cons, insP_mem (h.sub fun e he => by
          rcases List.mem_cons.mp he with rfl | he
          · exact List.mem_cons_self ..
          · exact List.mem_cons_of_mem _ (List.mem_cons_of_mem _ he)), List.mem_cons]
        constructor
        · rintro (z | z | z)
          · exact .inr (.inl z)
          · exact .inl z
          · exact .inr (.inr z)
        · rintro (z | z | z)
          · exact .inr (.inl z)
          · exact .inl z
          · exact .inr (.inr z)
      · rw [if_neg h2]
        have e : d = x := lt_tri (h.num d (List.mem_cons_self ..)) (h.num x hx) (h.al d (List.mem_cons_self ..) x hx) (Bool.eq_false_iff.mpr h1) (Bool.eq_false_iff.mpr h2)
        subst e
        simp
theorem sortU_mem {y : PyData} : ∀ {ds : List PyData}, Alk ds → (y ∈ sortU ds ↔ y ∈ ds)
  | [], _ => Iff.rfl
  | d :: ds, h => by
    have h' : Alk ds := h.sub fun e he => List.mem_cons_of_mem _ he
    show y ∈ insP d (sortU ds) ↔ _
    rw [insP_mem (h.sub fun e he => by
      rcases List.mem_cons.mp he with rfl | he
      · exact List.mem_cons_self ..
      · exact List.mem_cons_of_mem _ ((sortU_mem h').mp he)), sortU_mem h', List.mem_cons]
abbrev UpP (ds : List PyData) : Prop := ds.Pairwise fun x y => dataLt x y = true
theorem insP_up {d : PyData} : ∀ {xs : List PyData}, Alk (d :: xs) → UpP xs → UpP (insP d xs)
  | [], _, _ => List.pairwise_singleton ..
  | x :: xs, h, hu => by
    obtain ⟨u1, u2⟩ := List.pairwise_cons.mp hu
    unfold insP
    by_cases h1 : dataLt d x = true
    · rw [if_pos h1]
      refine List.pairwise_cons.mpr ⟨fun y hy => ?_, hu⟩
      rcases List.mem_cons.mp hy with rfl | hy
      · exact h1
      · exact lt_trans' h1 (u1 y hy)
    · rw [if_neg h1]
      by_cases h2 : dataLt x d = true
      · rw [if_pos h2]
        have h' : Alk (d :: xs) := h.sub fun e he => by
          rcases List.mem_cons.mp he with rfl | he
          · exact List.mem_cons_self ..
          · exact List.mem_cons_of_mem _ (List.mem_cons_of_mem _ he)
        refine List.pairwise_cons.mpr ⟨fun y hy => ?_, insP_up h' u2⟩
        rcases (insP_mem h').mp hy with rfl | hy
        · exact h2
        · exact u1 y hy
      · rw [if_neg h2]
        exact hu
theorem sortU_up : ∀ {ds : List PyData}, Alk ds → UpP (sortU ds)
  | [], _ => .nil
  | d :: ds, h => by
    have h' : Alk ds := h.sub fun e he => List.mem_cons_of_mem _ he
    exact insP_up (h.sub fun e he => by
      rcases List.mem_cons.mp he with rfl | he
      · exact List.mem_cons_self ..
      · exact List.mem_cons_of_mem _ ((sortU_mem h').mp he)) (sortU_up h')
theorem up_uniq : ∀ {l m : List PyData}, UpP l → UpP m → (∀ x, x ∈ l ↔ x ∈ m) → l = m
  | [], [], _, _, _ => rfl
  | [], y :: m, _, _, h => by cases (h y).mpr (List.mem_cons_self ..)
  | x :: l, [], _, _, h => by cases (h x).mp (List.mem_cons_self ..)
  | x :: l, y :: m, hl, hm, h => by
    obtain ⟨l1, l2⟩ := List.pairwise_cons.mp hl
    obtain ⟨m1, m2⟩ := List.pairwise_cons.mp hm
    have e : x = y := by
      rcases List.mem_cons.mp ((h x).mp (List.mem_cons_self ..)) with e | hx
      · exact e
      · rcases List.mem_cons.mp ((h y).mpr (List.mem_cons_self ..)) with e | hy
        · exact e.symm
        · have z := lt_trans' (m1 x hx) (l1 y hy)
          rw [lt_irr] at z
          cases z
    subst e
    rw [up_uniq l2 m2 fun z => ?_]
    constructor
    · intro hz
      rcases List.mem_cons.mp ((h z).mp (List.mem_cons_of_mem _ hz)) with e | hz2
      · have a := l1 z hz
        rw [e, lt_irr] at a
        cases a
      · exact hz2
    · intro hz
      rcases List.mem_cons.mp ((h z).mpr (List.mem_cons_of_mem _ hz)) with e | hz2
      · have a := m1 z hz
        rw [e, lt_irr] at a
        cases a
      · exact hz2
theorem up_of {L : List Rd} (a : Alk (L.map Prod.snd)) (nd : (L.map Prod.snd).Nodup) (pw : L.Pairwise fun x y => leD x y = true) : UpP (L.map Prod.snd) := by
  refine List.pairwise_map.mpr ?_
  have nd2 : L.Pairwise fun x y => x.2 ≠ y.2 := List.pairwise_map.mp nd
  refine List.Pairwise.imp_of_mem (fun {x y} hx hy h => ?_) (List.pairwise_and_iff.mpr ⟨pw, nd2⟩)
  have h1 : dataLt y.2 x.2 = false := by
    have z : (!dataLt y.2 x.2) = true := h.1
    rw [Bool.not_eq_true'] at z
    exact z
  have mx : x.2 ∈ L.map Prod.snd := List.mem_map.mpr ⟨x, hx, rfl⟩
  have my : y.2 ∈ L.map Prod.snd := List.mem_map.mpr ⟨y, hy, rfl⟩
  cases z : dataLt x.2 y.2 with
  | true => rfl
  | false => exact absurd (lt_tri (a.num _ mx) (a.num _ my) (a.al _ mx _ my) z h1) h.2
/-- the set of L at a, its tuples aside -/
def SetNAt (w : World) (h : Heap) (a : Addr) (L : List Rd) : Prop := ∃ (es : Array (Int × Value)) (ep : Nat) (t : SetTable), (∃ ob, h.get? a = some ob ∧ ob.ExactSet ∧ ob.data = .set es ep t) ∧ es.toList = ents w (keyed L) ∧ TabOk t ((keyed L).map (hof w)) ∧ ((keyed L).map Prod.snd).Nodup ∧ t.plain = true ∧ (w.params.followText "set-order" = true ∨ t.led = true) ∧ (keyed L).length * 5 < t.mask * 3 ∧ (keyed L).length < 77
def SetNO (w : World) (a : Addr) (L : List Rd) : HO := .ext fun h => SetNAt w h a L
theorem setNO_ok {P : Program} {w : World} {H : Hp} {h : Heap} {a : Addr} {L : List Rd} (S : SetNAt w h a L) : ObjOk P w H h a (SetNO w a L) := by
  have ⟨es, ep, t, ⟨ob, hob, r⟩, q⟩ := S
  refine ⟨S, ⟨ob, hob⟩, fun h1 h2 p k => ?_⟩
  have ⟨es', ep', t', ⟨ob', hob', r'⟩, q'⟩ := (show SetNAt w h1 a L from p)
  exact ⟨es', ep', t', ⟨ob', k ob' hob', r'⟩, q'⟩
theorem SetNAt.full {w : World} {h : Heap} {a : Addr} {L : List Rd} (S : SetNAt w h a L) (ok : RowsOk h L) : ∃ es ep t, SetN w h a (keyed L) es ep t := by
  obtain ⟨es, ep, t, h1, h2, h3, h4, h5, h6, h7, h8⟩ := S
  exact ⟨es, ep, t, h1, h2, h3, h4, ok.key, h5, h6, h7, h8⟩
theorem SetN.at' {w : World} {h : Heap} {a : Addr} {L : List Rd} {es : Array (Int × Value)} {ep : Nat} {t : SetTable} (S : SetN w h a (keyed L) es ep t) : SetNAt w h a L := ⟨es, ep, t, S.obj, S.ent, S.tab, S.once, S.flat, S.seen, S.room, S.few⟩
abbrev RV (L : List Rd) : List V := L.map fun r => V.ref r.1
theorem vals_RV : ∀ {L : List Rd} {us : List Value}, Vals (RV L) us → us = L.map fun r => Value.ref r.1
  | [], _, .nil => rfl
  | r :: L, _, .cons h t => by
    cases h
    rw [vals_RV (L := L) t]
    rfl
theorem RV_vals : ∀ L : List Rd, Vals (RV L) (L.map fun r => Value.ref r.1)
  | [] => .nil
  | r :: L => .cons rfl (RV_vals L)
/-- rows over the layer's heap -/
def RowsH (K : PySem.W.Frag) (H : Hp) (L : List Rd) : Prop := ∀ r ∈ L, NumT r.2 ∧ Dp K H (.ref r.1) r.2
section
variable {X : Cx}
theorem RowsH.ok {pins : List (Addr × Obj)} {σ : L2.St} {H : Hp} {s : Shared} (I : Inv X pins σ H s) {L : List Rd} (h : RowsH X.K H L) : RowsOk s.heap L := ⟨fun r hr => (h r hr).1, fun r hr => Dp.reads I _ _ (.ref r.1) (h r hr).2 rfl⟩
def rSetN (K : PySem.W.Frag) (w : World) : List V → Hp → VK → Prop := fun xs H Q => ∃ (l : Addr) (ks : List Rd), xs = [V.ref l] ∧ SqL K H l (RV ks) ∧ RowsH K H ks ∧ ks.length < 77 ∧ ∀ a L, H a = none → (∀ r ∈ L, r ∈ ks) → (∀ r ∈ ks, r.2 ∈ L.map Prod.snd) → (L.map Prod.snd).Nodup → Q (.ref a) (upd H a (SetNO w a L))
theorem cr_setN (hc : X.calm = true) (hu : X.A.units + 64 < cLine) : CallR X (.type "set") (rSetN X.K X.w) := by
  intro pins s σ H xs us Q I r h
  obtain ⟨l, ks, rfl, hl, hk, few, q⟩ := h
  rw [Vals.ref1 r]
  obtain ⟨its, rv, pl, hz⟩ := I.list hl
  have ok := hk.ok I
  have new : H s.heap.objs.size = none := I.hok.fresh (Nat.le_refl _)
  refine set_of (P := X.prog) (w := X.w) (keyed ks) (I.ok.hd hc) pl.isList (by
    rw [List.toList_toArray, vals_RV rv]
    show _ = (ks.map fun r => (r.1, nk r.2)).map fun r : Rw => Value.ref r.1
    rw [List.map_map]
    rfl) ok.key (by rw [List.length_map]; exact few) (by omega) fun h' tk R es ep t S g k => ?_
  obtain ⟨L, rfl, sub⟩ := unkey ks R fun r hr => List.mem_of_mem_take (g.from_ r hr)
  refine ⟨.ref s.heap.objs.size, upd H s.heap.objs.size (SetNO X.w s.heap.objs.size L), I.laid (t' := tk) k (Nat.le_refl _) (setNO_ok S.at'), rfl, q _ L new sub (fun r hr => ?_) ?_⟩
  · have z := g.each (r.1, nk r.2) (by
      rw [List.take_of_length_le (Nat.le_refl _)]
      exact List.mem_map.mpr ⟨r, hr, rfl⟩)
    rw [List.map_map] at z
    obtain ⟨u, hu, e⟩ := List.mem_map.mp z
    exact List.mem_map.mpr ⟨u, hu, nk_inj (hk u (sub u hu)).1.num (hk r hr).1.num e⟩
  · have z := S.once
    rw [List.map_map] at z
    refine List.pairwise_map.mpr (List.Pairwise.imp (fun {x y} hne e => hne ?_) (List.pairwise_map.mp z))
    exact congrArg nk e
def rSortN (K : PySem.W.Frag) (w : World) : List V → Hp → VK → Prop := fun vs H Q => ∃ (a : Addr) (L : List Rd), vs = [V.ref a] ∧ H a = some (SetNO w a L) ∧ RowsH K H L ∧ AllAlike (L.map Prod.snd) ∧ ∀ (L' : List Rd) (p : Addr), L'.Perm L → L'.Pairwise (fun x y => leD x y = true) → L'.length < 77 → H p = none → Q (.ref p) (upd H p (.lst (RV L')))
theorem cr_sortN (hc : X.calm = true) (hu : X.A.units + 64 < cLine) : CallR X (.builtin "sorted") (rSortN X.K X.w) := by
  intro pins s σ H vs us Q I r h
  obtain ⟨a, L, rfl, ha, hk, al, q⟩ := h
  have S0 : SetNAt X.w s.heap a L := (I.hok a _ ha).1
  have ok := hk.ok I
  obtain ⟨es, ep, t, S⟩ := S0.full ok
  rw [Vals.ref1 r]
  refine sorted_of S ok al (I.ok.hd hc) (by omega) fun s' p out c L' k g o hp hg hout pm pw => ?_
  have few : L'.length < 77 := by
    have z := S.few
    rw [List.length_map] at z
    rw [pm.length_eq]
    exact z
  have len : (RV L').length ≤ sizeLine := by
    rw [List.length_map, sizeLine_eq]
    omega
  have new : H p = none := I.hok.fresh hp
  have hv : Vals (RV L') out.toList := by
    rw [hout]
    exact RV_vals L'
  have J : Inv X pins σ (upd H p (.lst (RV L'))) { s with heap := s'.heap, gens := s'.gens, drawn := s'.drawn, toks := s'.toks } :=
    I.call (ch := []) (Un.laid k hp new) (I.hok.laid k hp ⟨len, out.toList, c, hv, hg⟩) (by rw [g]; exact I.bare) (fun _ z => nomatch z)
  have e : s' = { s with heap := s'.heap, gens := s'.gens, drawn := s'.drawn, toks := s'.toks } := by
    cases s'
    cases s
    cases o
    rfl
  rw [e]
  exact ⟨.ref p, _, J, rfl, q L' p pm pw few new⟩
end
end NS
namespace DL
open PySem PySem.Spec PyProof.Rows L2 PySem.W NS
section
variable {X : Cx}
def rSortD (K : PySem.W.Frag) : List V → Hp → VK → Prop := fun vs H Q => ∃ (a : Addr) (ps : List (V × PyData)), vs = [V.ref a] ∧ SqL K H a (ps.map Prod.fst) ∧ (∀ p ∈ ps, Dp K H p.1 p.2) ∧ AllAlike (ps.map Prod.snd) ∧ Sortable (ps.map Prod.snd) ∧ (∀ p ∈ ps, p.2.depth ≤ 40) ∧
  ∀ b, H b = none → Q (.ref b) (upd H b (.lst ((ps.mergeSort (dataLe false Prod.snd)).map Prod.fst)))
theorem each_vals : ∀ {ps : List (V × PyData)} {us : List Value}, Vals (ps.map Prod.fst) us → EachIs (fun u (p : V × PyData) => RelV p.1 u) us ps
  | [], _, .nil => .nil
  | p :: ps, _, .cons h t => .cons h (each_vals t)
theorem vals_each : ∀ {ps : List (V × PyData)} {us : List Value}, EachIs (fun u (p : V × PyData) => RelV p.1 u) us ps → Vals (ps.map Prod.fst) us
  | _, _, .nil => .nil
  | _, _, .cons h t => .cons h (vals_each t)
theorem cr_sortD (hu : X.A.units + 64 < cLine) : CallR X (.builtin "sorted") (rSortD X.kx) := by
  intro pins s σ H vs us Q I r h
  obtain ⟨a, ps, rfl, hs, hd, al, so, dp, q⟩ := h
  obtain ⟨its, rv, hl, hz⟩ := I.list hs
  rw [Vals.ref1 r]
  have e1 := each_vals rv
  have e2 : EachIs (fun u (p : V × PyData) => ∃ as, Reads s.heap u p.2 as) its ps := by
    have go : ∀ {us : List Value} {M : List (V × PyData)}, EachIs (fun u (p : V × PyData) => RelV p.1 u) us M → (∀ p ∈ M, p ∈ ps) → EachIs (fun u (p : V × PyData) => ∃ as, Reads s.heap u p.2 as) us M := fun {us M} h => by
      induction h with
      | nil => exact fun _ => .nil
      | cons h1 _ ih => exact fun hM => .cons (Dp.reads I _ _ _ (hd _ (hM _ List.mem_cons_self)) h1) (ih fun p hp => hM p (List.mem_cons_of_mem _ hp))
    exact go e1 fun p hp => hp
  rw [List.length_map] at hz
  refine sorted_data (enc := fun p : V × PyData => p.2) hl.isList e1 e2 al so hz (fun p hp => by have := dp p hp; omega) fun out lo eo => ?_
  obtain ⟨ep, he'⟩ := PyProof.Rows.sortedAll_at s.heap its (List.toArray out)
  have hlen : ((ps.mergeSort (dataLe false Prod.snd)).map Prod.fst).length ≤ sizeLine := by
    rw [List.length_map, List.length_mergeSort]
    exact hz
  exact ⟨.ref _, upd H (s.heap.objs.size + 1) (.lst ((ps.mergeSort (dataLe false Prod.snd)).map Prod.fst)), I.laid (t' := s.toks) (fun _ _ => PyProof.Rows.sortedAll_old) (Nat.le_succ _) ⟨hlen, out, ep, vals_each eo, he'⟩, rfl, q _ (I.hok.fresh (Nat.le_succ _))⟩
end
def leDD : D → D → Bool := dataLe false D.py
def consT : PyData → Bool
  | .tuple (_ :: _) => true
  | _ => false
def atomD : PyData → Bool
  | .none => false
  | .tuple _ => false
  | _ => true
def okSort (es : List D) : Bool := es.all (fun d => d.plain && decide (d.py.depth ≤ 40)) && (es.all fun a => es.all fun b => alike a.py b.py) && (es.all (fun d => consT d.py) || es.all fun d => atomD d.py)
def gSortD : D → Option D := fun x => match x with
  | .lst es => if okSort es = true then some (.lst (es.mergeSort leDD)) else none
  | _ => none
/-- values with their data -/
theorem dens_pairs {z : Bs} {F : Hp} : ∀ {vs : List V} {es : List D}, Dens z F vs es → ∃ ps : List (V × D), vs = ps.map Prod.fst ∧ es = ps.map Prod.snd ∧ ∀ p ∈ ps, Den z F p.1 p.2
  | _, _, .nil => ⟨[], rfl, rfl, fun p h => nomatch h⟩
  | v :: _, d :: _, .cons a r => by
    obtain ⟨ps, rfl, rfl, h⟩ := dens_pairs r
    exact ⟨(v, d) :: ps, rfl, rfl, fun p hp => (List.mem_cons.mp hp).elim (fun e => e ▸ a) (h p)⟩
theorem pairs_dens {z : Bs} {F : Hp} : ∀ {ps : List (V × D)}, (∀ p ∈ ps, Den z F p.1 p.2) → Dens z F (ps.map Prod.fst) (ps.map Prod.snd)
  | [], _ => .nil
  | p :: ps, h => .cons (h p List.mem_cons_self) (pairs_dens fun q hq => h q (List.mem_cons_of_mem _ hq))
theorem consT_ex {d : PyData} (h : consT d = true) : ∃ x r, d = .tuple (x :: r) := by
  cases d with
  | tuple xs =>
    cases xs with
    | nil => cases h
    | cons x xs => exact ⟨x, xs, rfl⟩
  | _ => cases h
theorem atomD_ex {d : PyData} (h : atomD d = true) : d ≠ .none ∧ ∀ xs, d ≠ .tuple xs := by
  cases d with
  | tuple xs => cases h
  | none => cases h
  | _ => exact ⟨fun z => (by cases z), fun xs z => (by cases z)⟩
theorem ok_sortD (K : Kx) : UnOk K .fr (fun v H Q => rSortD K [v] H Q) gSortD := fun z F H B x dx d hK s bg h1 e Q k => by
  cases dx with
  | lst es =>
    have e : (if okSort es = true then some (D.lst (es.mergeSort leDD)) else none) = some d := e
    by_cases ho : okSort es = true
    · rw [if_pos ho] at e
      cases e
      obtain ⟨a, vs, rfl, ha, da⟩ := Bor.lst s h1
      obtain ⟨ps, rfl, rfl, hp⟩ := dens_pairs da
      unfold okSort at ho
      rw [Bool.and_eq_true, Bool.and_eq_true, List.all_eq_true, List.all_eq_true, Bool.or_eq_true, List.all_eq_true, List.all_eq_true] at ho
      obtain ⟨⟨o1, o2⟩, o3⟩ := ho
      have mem : ∀ p ∈ ps, p.2 ∈ ps.map Prod.snd := fun p hp => List.mem_map.mpr ⟨p, hp, rfl⟩
      have pl : ∀ p ∈ ps, p.2.plain = true ∧ p.2.py.depth ≤ 40 := fun p hp => by
        have q := o1 _ (mem p hp)
        rw [Bool.and_eq_true, decide_eq_true_iff] at q
        exact q
      have m2 : (ps.map fun p => ((p.1, p.2.py) : V × PyData)).map Prod.snd = (ps.map Prod.snd).map D.py := by
        rw [List.map_map, List.map_map]
        rfl
      have m1 : (ps.map fun p => ((p.1, p.2.py) : V × PyData)).map Prod.fst = ps.map Prod.fst := by
        rw [List.map_map]
        rfl
      refine ⟨a, ps.map fun p => (p.1, p.2.py), rfl, by rw [m1]; exact SqL.of ha, fun p hp' => ?_, fun u hu v hv => ?_, ?_, fun p hp' => ?_, fun b hb => ?_⟩
      · obtain ⟨q, hq, rfl⟩ := List.mem_map.mp hp'
        rw [← hK]
        exact (hp q hq).dp s (pl q hq).1
      · rw [m2] at hu hv
        obtain ⟨c, hc, rfl⟩ := List.mem_map.mp hu
        obtain ⟨c', hc', rfl⟩ := List.mem_map.mp hv
        exact (List.all_eq_true.mp (o2 c hc)) c' hc'
      · rw [m2]
        rcases o3 with o3 | o3
        · refine .inl fun u hu => ?_
          obtain ⟨c, hc, rfl⟩ := List.mem_map.mp hu
          exact consT_ex (o3 c hc)
        · refine .inr fun u hu => ?_
          obtain ⟨c, hc, rfl⟩ := List.mem_map.mp hu
          exact atomD_ex (o3 c hc)
      · obtain ⟨q, hq, rfl⟩ := List.mem_map.mp hp'
        exact (pl q hq).2
      · have e1 : ((ps.map fun p => ((p.1, p.2.py) : V × PyData)).mergeSort (dataLe false Prod.snd)).map Prod.fst = (ps.mergeSort (dataLe false fun p : V × D => p.2.py)).map Prod.fst := by
          rw [← sort_maps (fun p : V × D => ((p.1, p.2.py) : V × PyData)) (r := dataLe false fun p : V × D => p.2.py) (fun _ _ _ _ => rfl), List.map_map]
          rfl
        have e2 : (ps.map Prod.snd).mergeSort leDD = (ps.mergeSort (dataLe false fun p : V × D => p.2.py)).map Prod.snd := (sort_maps (fun p : V × D => p.2) (r := dataLe false fun p : V × D => p.2.py) (s := leDD) (fun _ _ _ _ => rfl)).symm
        rw [e1]
        refine k _ F _ (Grow.laid s hb) (bg.laid hb) ⟨b, _, rfl, bg.new hb, hb, free_of s hb, upd_same, .lst ?_⟩
        rw [e2]
        exact pairs_dens fun p hp' => hp p ((List.mergeSort_perm ps _).mem_iff.mp hp')
    · rw [if_neg ho] at e
      cases e
  | _ => cases e
mutual
def dN : PyData → D
  | .int i => .int i
  | .tuple xs => .tup (dNs xs)
  | .none => .non
  | .bool _ => .non
  | .str _ => .non
  | .list _ => .non
  | .dict _ => .non
def dNs : List PyData → List D
  | [] => []
  | x :: xs => dN x :: dNs xs
end
section
variable {z : Bs} {F : Hp}
mutual
theorem den_dN : ∀ (d : D) (v : V), Den z F v d → d.plain = true → numD d.py = true → Den z F v (dN d.py)
  | .int i, _, h, _, _ => by
    unfold D.py dN
    exact h
  | .tup ds, _, h, hp, hn => by
    unfold D.plain at hp
    unfold D.py numD at hn
    unfold D.py dN
    cases h with
    | tup h1 h2 => exact .tup h1 (dens_dN ds _ h2 hp hn)
  | .tn ds, _, h, hp, hn => by
    unfold D.plain at hp
    unfold D.py numD at hn
    unfold D.py dN
    cases h with
    | tn h1 h2 => exact .tup h1.sqt (dens_dN ds _ h2 hp hn)
  | .non, _, _, _, hn => by unfold D.py numD at hn; cases hn
  | .bl _, _, _, _, hn => by unfold D.py numD at hn; cases hn
  | .str _, _, _, _, hn => by unfold D.py numD at hn; cases hn
  | .lst _, _, _, _, hn => by unfold D.py numD at hn; cases hn
  | .dK _, _, _, hp, _ => by unfold D.plain at hp; cases hp
  | .dT _, _, _, hp, _ => by unfold D.plain at hp; cases hp
  | .bag, _, _, hp, _ => by unfold D.plain at hp; cases hp
theorem dens_dN : ∀ (ds : List D) (vs : List V), Dens z F vs ds → plainL ds = true → numDs (pyL ds) = true → Dens z F vs (dNs (pyL ds))
  | [], _, h, _, _ => by
    cases h
    unfold pyL dNs
    exact .nil
  | d :: ds, _, h, hp, hn => by
    cases h with
    | cons h1 h2 =>
      unfold plainL at hp
      rw [Bool.and_eq_true] at hp
      unfold pyL numDs at hn
      rw [Bool.and_eq_true] at hn
      unfold pyL dNs
      exact .cons (den_dN d _ h1 hp.1 hn.1) (dens_dN ds _ h2 hp.2 hn.2)
end
end
def okNest (es : List D) : Bool := es.all (fun d => d.plain && numD d.py && consT d.py && decide (d.py.depth ≤ 8)) && es.all fun a => es.all fun b => alike a.py b.py
def sortN (es : List D) : List D := (sortU (es.map D.py)).map dN
def gSortSetN : D → Option D := fun x => match x with
  | .lst es => if es.length < 64 ∧ okNest es = true then some (.lst (sortN es)) else none
  | _ => none
theorem rd_of {z : Bs} {F : Hp} : ∀ {ps : List (V × D)}, (∀ p ∈ ps, Den z F p.1 p.2) → (∀ p ∈ ps, consT p.2.py = true) → ∃ ks : List Rd, ps.map Prod.fst = RV ks ∧ ks.map Prod.snd = (ps.map Prod.snd).map D.py ∧ ∀ r ∈ ks, ∃ p ∈ ps, p.1 = .ref r.1 ∧ p.2.py = r.2
  | [], _, _ => ⟨[], rfl, rfl, fun r h => nomatch h⟩
  | p :: ps, h, hc => by
    obtain ⟨ks, e1, e2, e3⟩ := rd_of (ps := ps) (fun q hq => h q (List.mem_cons_of_mem _ hq)) fun q hq => hc q (List.mem_cons_of_mem _ hq)
    have h0 := h p List.mem_cons_self
    have c0 := hc p List.mem_cons_self
    have hr : ∃ a, p.1 = .ref a := by
      obtain ⟨v, d⟩ := p
      cases h0 with
      | tup _ _ => exact ⟨_, rfl⟩
      | tn _ _ => exact ⟨_, rfl⟩
      | lst _ _ => exact ⟨_, rfl⟩
      | dK _ _ => exact ⟨_, rfl⟩
      | dT _ _ => exact ⟨_, rfl⟩
      | bag => exact ⟨_, rfl⟩
      | non => unfold D.py at c0; cases c0
      | bl _ => unfold D.py at c0; cases c0
      | int _ => unfold D.py at c0; cases c0
      | str _ => unfold D.py at c0; cases c0
    obtain ⟨a, ea⟩ := hr
    refine ⟨(a, p.2.py) :: ks, by rw [List.map_cons, e1, ea]; rfl, by rw [List.map_cons, List.map_cons, List.map_cons, e2], fun r hr => ?_⟩
    rcases List.mem_cons.mp hr with rfl | hr
    · exact ⟨p, List.mem_cons_self, ea, rfl⟩
    · obtain ⟨q, hq, z1, z2⟩ := e3 r hr
      exact ⟨q, List.mem_cons_of_mem _ hq, z1, z2⟩
section
variable {X : Cx} {ow : Mk} {ro us : List Nat} {m : Mo} {pos p : Pos} {a b e : Expr} {fa fb f : Ex} {x : Str}
theorem pv_sortSetN {p2 q2 : Pos} (hc : X.calm = true) (hu : X.A.units + 64 < cLine) (hm1 : X.mg "sorted" = none) (hm2 : X.mg "set" = none) (ha : PV .bo ow ro X e f) (hg1 : Gl X "sorted" := by rfl) (hg2 : Gl X "set" := by rfl)
    (he : starEach [e] X.env = (false, eval e X.env) :: starEach [] X.env := by rfl) (hpl2 : (backTo q2 (starEach [] X.env)).any (·.1) = false := by rfl)
    (he2 : starEach [.Call (.Name "set" p2) [e] [] q2] X.env = (false, eval (.Call (.Name "set" p2) [e] [] q2) X.env) :: starEach [] X.env := by rfl) (hpl : (backTo pos (starEach [] X.env)).any (·.1) = false := by rfl) :
    PV .fr ow ro X (.Call (.Name "sorted" p) [.Call (.Name "set" p2) [e] [] q2] [] pos) (x1 gSortSetN f) :=
  PV.of (pe_callB (cr_sortN hc hu) hg1 hm1 (by rfl) (pa_cons (pe_callTy (cr_setN hc hu) hg2 hm2 (by rfl) (pa_cons ha pa_nil he) (by decide) (by decide) he hpl2) pa_nil he2) (by decide) (by decide) he2 hpl) fun w ρ B F H σ d B' hK hR r hf Q k => by
    obtain ⟨x, e1, e3⟩ := x1_some hf
    cases x with
    | lst es =>
      have e3 : (if es.length < 64 ∧ okNest es = true then some (D.lst (sortN es)) else none) = some d := e3
      by_cases hok : es.length < 64 ∧ okNest es = true
      · rw [if_pos hok] at e3
        cases e3
        refine ⟨w, ρ, B, F, _, _, hK, hR, r, e1, fun v F1 H1 g1 b1 q1 => ?_⟩
        obtain ⟨a, vs, rfl, hH, hd⟩ := Bor.lst g1.sub q1
        obtain ⟨ps, rfl, rfl, hp⟩ := dens_pairs hd
        have ho := hok.2
        unfold okNest at ho
        rw [Bool.and_eq_true, List.all_eq_true, List.all_eq_true] at ho
        obtain ⟨o1, o2⟩ := ho
        have mem : ∀ p ∈ ps, p.2 ∈ ps.map Prod.snd := fun p hp => List.mem_map.mpr ⟨p, hp, rfl⟩
        have pl : ∀ p ∈ ps, p.2.plain = true ∧ numD p.2.py = true ∧ consT p.2.py = true ∧ p.2.py.depth ≤ 8 := fun p hp => by
          have q := o1 _ (mem p hp)
          rw [Bool.and_eq_true, Bool.and_eq_true, Bool.and_eq_true, decide_eq_true_iff] at q
          exact ⟨q.1.1.1, q.1.1.2, q.1.2, q.2⟩
        obtain ⟨ks, k1, k2, k3⟩ := rd_of hp fun p hp => (pl p hp).2.2.1
        have rows : RowsH X.kx H1 ks := fun r hr => by
          obtain ⟨p, hp', z1, z2⟩ := k3 r hr
          have q := pl p hp'
          have dp := (hp p hp').dp g1.sub q.1
          rw [z1, z2, hK] at dp
          exact ⟨⟨z2 ▸ q.2.1, z2 ▸ consT_ex q.2.2.1, z2 ▸ q.2.2.2⟩, dp⟩
        have dens : ∀ r ∈ ks, Den w.z F1 (.ref r.1) (dN r.2) := fun r hr => by
          obtain ⟨p, hp', z1, z2⟩ := k3 r hr
          have q := pl p hp'
          rw [← z1, ← z2]
          exact den_dN _ _ (hp p hp') q.1 q.2.1
        have al : AllAlike (ks.map Prod.snd) := fun u hu v hv => by
          rw [k2] at hu hv
          obtain ⟨c, hc, rfl⟩ := List.mem_map.mp hu
          obtain ⟨c', hc', rfl⟩ := List.mem_map.mp hv
          exact (List.all_eq_true.mp (o2 c hc)) c' hc'
        have alk : Alk (ks.map Prod.snd) := ⟨fun u hu => by
          obtain ⟨r, hr, rfl⟩ := List.mem_map.mp hu
          exact (rows r hr).1.num, al⟩
        have kl : ks.length = (ps.map Prod.snd).length := by
          have z := congrArg List.length k2
          rw [List.length_map, List.length_map] at z
          exact z
        refine ⟨a, ks, rfl, SqL.of (k1 ▸ hH), rows, by rw [kl]; have := hok.1; omega, fun t L ht hL1 hL2 hL3 => ?_⟩
        have keep : Same H1 (upd H1 t (SetNO X.w t L)) := same_upd_free ht
        have rowsL : RowsH X.kx (upd H1 t (SetNO X.w t L)) L := fun r hr => by
          obtain ⟨p, hp', z1, z2⟩ := k3 r (hL1 r hr)
          have dp := (hp p hp').dp (g1.sub.trans keep) (pl p hp').1
          rw [z1, z2, hK] at dp
          exact ⟨(rows r (hL1 r hr)).1, dp⟩
        have subL : ∀ e ∈ L.map Prod.snd, e ∈ ks.map Prod.snd := fun e he => by
          obtain ⟨r, hr, rfl⟩ := List.mem_map.mp he
          exact List.mem_map.mpr ⟨r, hL1 r hr, rfl⟩
        refine ⟨t, L, rfl, upd_same, rowsL, fun u hu v hv => al u (subL u hu) v (subL v hv), fun L' q pm pw fw hq => ?_⟩
        have alkL' : Alk (L'.map Prod.snd) := alk.sub fun e he => subL e ((pm.map Prod.snd).mem_iff.mp he)
        have up := up_of alkL' ((pm.map Prod.snd).nodup_iff.mpr hL3) pw
        have eq : L'.map Prod.snd = sortU (ks.map Prod.snd) := up_uniq up (sortU_up alk) fun y => by
          rw [sortU_mem alk, (pm.map Prod.snd).mem_iff]
          constructor
          · exact subL y
          · intro hy
            obtain ⟨r, hr, rfl⟩ := List.mem_map.mp hy
            exact hL2 r hr
        have g2 : Grow w.z F1 H1 F1 (upd H1 t (SetNO X.w t L)) := Grow.laid g1.sub ht
        have b2 : BagAt w.z F1 (upd H1 t (SetNO X.w t L)) B' := b1.laid ht
        refine k _ F1 _ ((g1.trans g2).trans (Grow.laid g2.sub hq)) (b2.laid hq) (Res.back (m := .fr) (g1.trans g2) ⟨q, _, rfl, b2.new hq, hq, free_of g2.sub hq, upd_same, .lst ?_⟩)
        unfold sortN
        rw [← k2, ← eq]
        have all : ∀ M : List Rd, (∀ r ∈ M, r ∈ ks) → Dens w.z F1 (RV M) ((M.map Prod.snd).map dN) := fun M => by
          induction M with
          | nil => exact fun _ => .nil
          | cons r M ih => exact fun hM => .cons (dens r (hM r List.mem_cons_self)) (ih fun u hu => hM u (List.mem_cons_of_mem _ hu))
        exact all L' fun r hr => hL1 r (pm.mem_iff.mp hr)
      · rw [if_neg hok] at e3
        cases e3
    | _ => cases e3
end
end DL
namespace DL
open PySem PySem.Spec PyProof.Rows L2 PySem.W NS
section
variable {X : Cx}
def rTupN (K : PySem.W.Frag) : List V → Hp → VK → Prop := fun xs H Q => ∃ (p : Addr) (ys : List V), xs = [.ref p] ∧ SqL K H p ys ∧ ∀ (l : Addr) (o : Obj), H l = none → o.cls = .type "tuple" → o.dict = none → Q (.ref l) (upd H l (.frz o (.tup ys)))
theorem call_tupN : CallR X (.type "tuple") (rTupN X.kx) := by
  intro pins s σ H xs us Q I r h
  obtain ⟨p, ys, rfl, hq, q⟩ := h
  obtain ⟨u, rfl, rx⟩ := vals1 r
  cases rx
  obtain ⟨its, rv, pl, hz⟩ := I.list hq
  have hl := rv.length
  refine call_tuple_list pl.isList (fun h' kp => ?_) (by simp only [List.size_toArray] <;> omega)
  have I1 : Inv X pins σ H { s with heap := h' } := I.kept (t' := s.toks) kp
  have J : Inv X pins σ (upd H h'.objs.size (.frz { cls := .type "tuple", data := .seq its.toArray } (.tup ys))) { s with heap := h'.push { cls := .type "tuple", data := .seq its.toArray } } :=
    I1.laid (t' := s.toks) (fun b o e => Heap.get?_push_of_some _ e) (Nat.le_refl _) (show ObjOk X.prog X.w _ _ _ (.frz _ (.tup ys)) from ⟨Heap.get?_push_size _ rfl, hz, its, rv, IsTup.new _ _⟩)
  exact ⟨.ref h'.objs.size, _, J, rfl, q _ _ (I1.hok.fresh (Nat.le_refl _)) rfl rfl⟩
end
def gTupN : D → Option D := fun x => match x with
  | .lst ds => some (.tn ds)
  | .tn ds => some (.tn ds)
  | _ => none
def rTupNA (K : PySem.W.Frag) : List V → Hp → VK → Prop := fun xs H Q => rTupN K xs H Q ∨ ∃ p ys, xs = [.ref p] ∧ ((SqL K H p ys ∧ ∀ l, H l = none → Q (.ref l) (upd H l (.tup ys))) ∨ (SqT K H p ys ∧ Q (.ref p) H))
theorem call_tupNA {X : Cx} : CallR X (.type "tuple") (rTupNA X.kx) := CallR.or call_tupN call_tuple_of
theorem ok_tupN (K : Kx) : UnOk K .st (fun v H Q => rTupNA K [v] H Q) gTupN := fun z F H B x dx d hK s bg h1 e Q k => by
  cases dx with
  | lst ds =>
    cases e
    obtain ⟨a, vs, rfl, ha, da⟩ := Bor.lst s h1
    exact .inl ⟨a, vs, rfl, SqL.of ha, fun l o hl hc hd => k _ _ _ (Grow.laidS s hl) (bg.laidS s hl) (.tn ⟨o, upd_same, hc, hd⟩ (da.mono (same_upd_free (free_of s hl))))⟩
  | tn ds =>
    cases e
    obtain ⟨a, vs, rfl, ha, da⟩ := Bor.tn h1
    exact .inr ⟨a, vs, rfl, .inr ⟨sqt_same s ha.sqt, k _ F H (Grow.refl s) bg (.tn ha da)⟩⟩
  | _ => cases e
section
variable {X : Cx} {ow : Mk} {ro us : List Nat} {m : Mo} {pos p : Pos} {a b e : Expr} {fa fb f : Ex} {x : Str}
def tTupN (t : TA) : TE := fun σ H Q => t σ H fun xs H1 => xs.length ≤ sizeLine ∧ ∀ (p : Addr) (o : Obj), H1 p = none → o.cls = .type "tuple" → o.dict = none → Q (.ref p) (upd H1 p (.frz o (.tup xs)))
theorem pe_tupN {es : List Expr} {t : TA} {c : Nat} (h : PA X es t) : PE X (.Tuple es c pos) (tTupN t) := by
  refine ⟨fun pins s σ H Q I hq => ?_⟩
  refine wpAny_Tuple_spliced (thn (h.run pos pins s σ H _ I hq) fun us s1 ⟨xs, H1, I1, r, z, q⟩ => ⟨by rw [← r.length]; exact z, ?_⟩)
  have hf : H1 s1.heap.objs.size = none := I1.hok.fresh (Nat.le_refl _)
  exact ⟨.ref s1.heap.objs.size, _, I1.laid (t' := s1.toks) (fun b u e => Heap.get?_push_of_some _ e) (Nat.le_refl _) (show ObjOk X.prog X.w _ _ _ (.frz _ (.tup xs)) from ⟨Heap.get?_push_size _ rfl, z, us, r, ⟨_, Heap.get?_push_size _ rfl, rfl, _, rfl⟩⟩), rfl, q _ _ hf rfl rfl⟩
def xTupN (fs : Exs) : Ex := fun ρ B => (fs ρ B).map fun p => (.tn p.1, p.2)
theorem pv_tupN {x1 : Nat} {es : List Expr} {ms : List Mo} {fs : Exs} (h : PVs ms ow ro X es fs) (ha : allSt ms = true := by rfl) (hl : ms.length ≤ sizeLine := by decide) : PV .st ow ro X (.Tuple es x1 pos) (xTupN fs) :=
  PV.of (pe_tupN h) fun w ρ B F H σ d B' hK hR r hf Q k => by
    unfold xTupN at hf
    rw [Option.map_eq_some_iff] at hf
    obtain ⟨⟨ds, B1⟩, e1, hf⟩ := hf
    cases hf
    refine ⟨w, ρ, B, F, ds, _, hK, hR, r, e1, fun vs F1 H1 g1 b1 q1 => ⟨by rw [q1.length.1]; exact hl, fun p o hp hc hd => ?_⟩⟩
    exact k _ _ _ (g1.trans (Grow.laidS g1.sub hp)) (b1.laidS g1.sub hp) (.tn ⟨o, upd_same, hc, hd⟩ ((q1.dens ha).mono (same_upd_free (free_of g1.sub hp))))
def fIx (d : PyData) : List PyData → Option Nat
  | [] => none
  | z :: zs => if PyData.eqv z d then some 0 else (fIx d zs).map (· + 1)
theorem fIx_some {d : PyData} : ∀ {ds : List PyData} {j : Nat}, fIx d ds = some j → ∃ z, ds[j]? = some z ∧ PyData.eqv z d = true ∧ ∀ (m : Nat) (z' : PyData), m < j → ds[m]? = some z' → PyData.eqv z' d = false
  | [], j, h => by cases h
  | z :: zs, j, h => by
    unfold fIx at h
    by_cases e : PyData.eqv z d = true
    · rw [if_pos e] at h
      cases h
      exact ⟨z, rfl, e, fun m z' hm => absurd hm (Nat.not_lt_zero _)⟩
    · rw [if_neg e, Option.map_eq_some_iff] at h
      obtain ⟨i, h1, rfl⟩ := h
      obtain ⟨y, h2, h3, h4⟩ := fIx_some h1
      refine ⟨y, h2, h3, fun m z' hm hz => ?_⟩
      cases m with
      | zero =>
        cases hz
        exact Bool.eq_false_iff.mpr e
      | succ m => exact h4 m z' (by omega) hz
def gIdx : D → D → Option D := fun x y => match x with
  | .lst ds => if inOk y ds then (fIx y.py (pyL ds)).map fun j => .int (j : Nat) else none
  | .tn ds => if inOk y ds then (fIx y.py (pyL ds)).map fun j => .int (j : Nat) else none
  | _ => none
/-- tuple.index, of data -/
def rIndexN (K : PySem.W.Frag) : V → List V → Hp → VK → Prop := fun x xs H Q => ∃ (a : Addr) (vs : List V) (y : V) (d : PyData) (ds : List PyData) (j : Nat) (z : PyData), x = V.ref a ∧ xs = [y] ∧ SqT K H a vs ∧ DpAll K H vs ds ∧ Dp K H y d ∧
  SeqAt.shaped (.list ds) = true ∧ SeqAt.shaped d = true ∧ ds[j]? = some z ∧ PyData.eqv z d = true ∧ (∀ (m : Nat) (z' : PyData), m < j → ds[m]? = some z' → PyData.eqv z' d = false) ∧ Q (.int (j : Nat)) H
theorem mt_indexN (hu : X.A.units + 65 < cLine) : MtR X "tuple.index" (rIndexN X.kx) := by
  intro pins s σ H x xs v us Q I rx rxs h
  obtain ⟨a, vs, y, d, ds, j, z, rfl, rfl, hs, ha, hy, sl, sd, hz, hzj, hno, q⟩ := h
  cases rx
  cases rxs with
  | cons ry rt =>
    rename_i uy ut
    cases rt
    obtain ⟨bs, r1⟩ := Dp.reads I d y uy hy ry
    have hxs : PyData.canLayAll0 ds = true := SeqAt.canLay_of_shaped sl
    have room : X.A.units + 1 + min (PyData.depthAll ds) d.depth < cLine := room_in_shaped sd hu
    obtain ⟨its, rv, ⟨⟨cls, dd, data, sls⟩, ho, hc, n, hdt⟩, hlen⟩ := I.tuple hs
    simp only at hc hdt
    subst hc hdt
    obtain ⟨as, h4⟩ := Dp.readsAll I ds _ its ha rv
    have hn : its.length = ds.length := SeqAt.ReadsAll.length ds its as h4
    have hmap : its.map (SeqAt.readOf s.heap) = ds := SeqAt.readsAll_map ds its as hxs h4
    obtain ⟨hjd, _⟩ := List.getElem?_eq_some_iff.mp hz
    have hj : j < its.toArray.size := by
      simp only [List.size_toArray]
      omega
    have value : ∀ (m : Nat) (hm : m < its.toArray.size) (u : PyData), ds[m]? = some u → SeqAt.readOf s.heap its.toArray[m] = u := by
      intro m hm u hu'
      have hml : m < its.length := by simpa using hm
      rw [← hmap, List.getElem?_map, List.getElem?_eq_getElem hml] at hu'
      have e1 : SeqAt.readOf s.heap its[m] = u := Option.some.inj (show some (SeqAt.readOf s.heap its[m]) = some u from hu')
      simpa using e1
    refine call_meets PySem.F.slot_tuple_index ⟨_, ho, rfl⟩ PySem.F.entry_tuple_index (PySem.F.args_tuple_index_2 _ _) (TI.tuple_indexAt a its.toArray n dd sls uy (fun u => PyData.eqv (SeqAt.readOf s.heap u) d) j hj ?_ ?_)
      ⟨ho, SeqAt.items_eqAt (vs := its.toArray) (show ReadsAll s.heap its.toArray.toList ds as from h4) r1 hxs (SeqAt.canLay_of_shaped sd) room, ?_⟩
    · show PyData.eqv (SeqAt.readOf s.heap its.toArray[j]) d = true
      rw [value j hj z hz]
      exact hzj
    · intro m hm hmj
      have hmd : m < ds.length := by omega
      show PyData.eqv (SeqAt.readOf s.heap its.toArray[m]) d = false
      rw [value m hm _ (List.getElem?_eq_getElem hmd)]
      exact hno m _ hmj (List.getElem?_eq_getElem hmd)
    · exact ⟨.int (j : Nat), H, I.tok _, ⟨_, rfl⟩, q⟩
def tIdxN (K : PySem.W.Frag) (to ty : TE) : TE := fun σ H Q => to σ H fun x H1 => (∃ a vs, x = .ref a ∧ NdT H1 a vs) ∧ ty σ H1 fun y H2 => rIndexN K x [y] H2 Q
theorem pe_idxN {apos cpos : Pos} {to ty : TE} (hu : X.A.units + 65 < cLine) (ho : PE X a to) (he : PE X b ty) (m : M1 X a "index" apos b cpos) : PE X (.Call (.Attribute a "index" apos) [b] [] cpos) (tIdxN X.kx to ty) := by
  refine ⟨fun pins s σ H Q I h => ?_⟩
  refine wpAny_Call_method m.base m.few m.line PySem.F.plainAttrs_tuple PySem.F.slot_tuple_index PySem.F.type_tuple_index (thn (ho.run pins s σ H _ I h) fun u s1 ⟨x, H1, I1, rx, ⟨c, vs, ex, o, hH, hcl, hdi⟩, q1⟩ => ?_)
  subst ex
  obtain rfl : u = Value.ref c := rx
  have hob : s1.heap.get? c = some o := (show ObjOk X.prog X.w H1 s1.heap c (.frz o (.tup vs)) from I1.hok c _ hH).1
  refine ⟨⟨o, hob, hcl⟩, fun b' e => ?_, ?_⟩
  · cases e
    exact ⟨o, hob, hdi⟩
  · rw [m.trees]
    exact Calls.callWith_builtin rfl (Calls.evalArgs_plain (Calls.spliced_cons (thn (he.run pins s1 σ H1 _ I1 q1) fun iv s2 ⟨y, H2, I2, ry, q2⟩ => Calls.spliced_nil (mt_indexN hu pins s2 σ H2 (.ref c) [y] (.ref c) [iv] Q I2 rfl (.cons ry .nil) q2))))
def tIdxL (K : PySem.W.Frag) (to ty : TE) : TE := fun σ H Q => to σ H fun x H1 => (∃ a vs, x = .ref a ∧ H1 a = some (.lst vs)) ∧ ty σ H1 fun y H2 => rIndexD K x [y] H2 Q
theorem pe_idxL {apos cpos : Pos} {to ty : TE} (hu : X.A.units + 65 < cLine) (ho : PE X a to) (he : PE X b ty) (m : M1 X a "index" apos b cpos) : PE X (.Call (.Attribute a "index" apos) [b] [] cpos) (tIdxL X.kx to ty) := by
  refine ⟨fun pins s σ H Q I h => ?_⟩
  refine wpAny_Call_method m.base m.few m.line PySem.F.plainAttrs_list PySem.F.slot_list_index PySem.F.type_list_index (thn (ho.run pins s σ H _ I h) fun u s1 ⟨x, H1, I1, rx, ⟨c, vs, ex, hH⟩, q1⟩ => ?_)
  subst ex
  obtain rfl : u = Value.ref c := rx
  obtain ⟨z, its, n, rv, hob⟩ := (show ObjOk X.prog X.w H1 s1.heap c (.lst vs) from I1.hok c _ hH)
  refine ⟨⟨_, hob, rfl⟩, fun b' e => ?_, ?_⟩
  · cases e
    exact ⟨_, hob, rfl⟩
  · rw [m.trees]
    exact Calls.callWith_builtin rfl (Calls.evalArgs_plain (Calls.spliced_cons (thn (he.run pins s1 σ H1 _ I1 q1) fun iv s2 ⟨y, H2, I2, ry, q2⟩ => Calls.spliced_nil (mt_indexD hu pins s2 σ H2 (.ref c) [y] (.ref c) [iv] Q I2 rfl (.cons ry .nil) q2))))
theorem pv_idx {apos cpos : Pos} (hu : X.A.units + 65 < cLine) (ha : PV .bo ow ro X a fa) (hb : PV .bo ow ro X b fb) (m : M1 X a "index" apos b cpos) : PV .st ow ro X (.Call (.Attribute a "index" apos) [b] [] cpos) (x2 gIdx fa fb) :=
  PV.of (pe_or (pe_idxL hu ha hb m) (pe_idxN hu ha hb m)) fun w ρ B F H σ d B' hK hR r hf Q k => by
    obtain ⟨x, B1, y, e1, e2, e3⟩ := x2_some hf
    have open_ : ∀ ds : List D, (if inOk y ds = true then (fIx y.py (pyL ds)).map (fun j => D.int (j : Nat)) else none) = some d → y.plain = true ∧ plainL ds = true ∧ SeqAt.shaped y.py = true ∧ SeqAt.shaped (.list (pyL ds)) = true ∧ ∃ j : Nat, d = .int (j : Nat) ∧ fIx y.py (pyL ds) = some j := by
      intro ds e
      by_cases hl : inOk y ds = true
      · rw [if_pos hl, Option.map_eq_some_iff] at e
        obtain ⟨j, h1, h2⟩ := e
        unfold inOk at hl
        rw [Bool.and_eq_true, Bool.and_eq_true, Bool.and_eq_true] at hl
        exact ⟨hl.1.1.1, hl.1.1.2, hl.1.2, hl.2, j, h2.symm, h1⟩
      · rw [if_neg hl] at e
        cases e
    cases x with
    | lst ds =>
      obtain ⟨o1, o2, o3, o4, j, rfl, hj⟩ := open_ ds e3
      obtain ⟨z, z1, z2, z3⟩ := fIx_some hj
      refine .inl ⟨w, ρ, B, F, _, B1, hK, hR, r, e1, fun v1 F1 H1 g1 b1 q1 => ?_⟩
      obtain ⟨c, vs, ec, hc, dc⟩ := Bor.lst g1.sub q1
      refine ⟨⟨c, vs, ec, hc⟩, w, ρ, B1, F1, y, _, hK, hR, r.grow g1 b1, e2, fun v2 F2 H2 g2 b2 q2 => ?_⟩
      have px := Bor.dp g2.sub (Bor.grow q1 g2) (show (D.lst ds).plain = true by unfold D.plain; exact o2)
      have py := Bor.dp g2.sub q2 o1
      rw [hK] at px py
      unfold D.py at px
      rw [ec] at px
      exact ⟨c, v2, y.py, pyL ds, j, z, ec, rfl, px, py, o4, o3, z1, z2, z3, k _ F2 H2 (g1.trans g2) b2 (.int _)⟩
    | tn ds =>
      obtain ⟨o1, o2, o3, o4, j, rfl, hj⟩ := open_ ds e3
      obtain ⟨z, z1, z2, z3⟩ := fIx_some hj
      refine .inr ⟨w, ρ, B, F, _, B1, hK, hR, r, e1, fun v1 F1 H1 g1 b1 q1 => ?_⟩
      obtain ⟨c, vs, ec, hc, dc⟩ := Bor.tn q1
      refine ⟨⟨c, vs, ec, ndt_same g1.sub hc⟩, w, ρ, B1, F1, y, _, hK, hR, r.grow g1 b1, e2, fun v2 F2 H2 g2 b2 q2 => ?_⟩
      have pall := Dens.dp g2.sub (dc.mono g2.le) o2
      have py := Bor.dp g2.sub q2 o1
      rw [hK] at pall py
      exact ⟨c, vs, v2, y.py, pyL ds, j, z, ec, rfl, (ndt_same (g2.le.trans g2.sub) hc).sqt, pall, py, o4, o3, z1, z2, z3, k _ F2 H2 (g1.trans g2) b2 (.int _)⟩
    | _ => cases e3
end
end DL
namespace DL
open PySem PySem.Spec PyProof.Rows L2 PySem.W NS
/-- the value last told of a key -/
def lookB {κ β : Type} [DecidableEq κ] : List (κ × β) → κ → Option β → Option β
  | [], _, o => o
  | q :: l, k, o => lookB l k (if q.1 = k then some q.2 else o)
section
variable {κ : Type} [DecidableEq κ]
end
/-- pairs by the addresses of pair and key -/
def PairsT (K : PySem.W.Frag) (H : Hp) : List (Addr × Addr) → List (NK × V) → Prop := Paired fun q kv => SqT K H q.1 [.ref q.2, kv.2] ∧ KyT K H q.2 kv.1
theorem PairsT.mono {K : PySem.W.Frag} {H H' : Hp} (s : Same H H') {qs : List (Addr × Addr)} {kvs : List (NK × V)} (h : PairsT K H qs kvs) : PairsT K H' qs kvs := paired_mono (fun _ _ z => ⟨sqt_same s z.1, z.2.mono s⟩) h
section
variable {X : Cx}
variable {o e f k d : Expr} {apos cpos pos p p2 : Pos} {td ty tx te tk : TE} {x : Str}
end
section
variable {z : Bs} {F : Hp}
end
section
variable {X : Cx} {ow : Mk} {ro us : List Nat} {m : Mo} {e k d : Expr} {fe fk fd : Ex} {apos cpos p p2 : Pos}
end
def sSetPop (i j : Nat) (fk : Ex) : Sx := fun ρ B => match ρ.getD j none with
  | some (.lst ds) => (ds[ds.length - 1]?).bind fun y => (fk (ρ.set j (some (.lst ds.dropLast))) B).bind fun s => match (ρ.set j (some (.lst ds.dropLast))).getD i none, s.1 with
    | some (.lst es), .int n => (ixN es.length n).map fun t => (.nx ((ρ.set j (some (.lst ds.dropLast))).set i (some (.lst (es.set t y)))), s.2)
    | _, _ => none
  | _ => none
theorem Dens.dropLast {z : Bs} {F : Hp} {vs : List V} {ds : List D} (h : Dens z F vs ds) : Dens z F vs.dropLast ds.dropLast := by
  rw [List.dropLast_eq_take, List.dropLast_eq_take, h.length]
  exact h.take _
section
variable {X : Cx} {ow owL : Mk} {ro us : List Nat} {m : Mo} {ek : Expr} {fk : Ex} {apos cpos p py pos spos : Pos} {x y : Str}
theorem v_setPop (i j : Nat) (hk : PV .bo ow ro X ek fk) (hw : ow.getD i false = true := by rfl) (hr : i ∉ ro := by decide) (hN : X.N[i]? = some x := by rfl) (hwj : ow.getD j false = true := by rfl) (hrj : j ∉ ro := by decide) (hNj : X.N[j]? = some y := by rfl)
    (hv : Vis X.env.scope x := by first | exact Or.inl rfl | exact Or.inr (Or.inl rfl) | exact Or.inr (Or.inr rfl)) (hd : (x == ("__debug__" : Str)) = false := by decide) (hcd : (x == ("__classdict__" : Str)) = false := by decide)
    (hvy : Vis X.env.scope y := by first | exact Or.inl rfl | exact Or.inr (Or.inl rfl) | exact Or.inr (Or.inr rfl)) (hdy : (y == ("__debug__" : Str)) = false := by decide) (hcdy : (y == ("__classdict__" : Str)) = false := by decide)
    (hbase : attributeBase (.Name y py) "pop" X.env (eval (.Name y py) X.env) = eval (.Name y py) X.env := by rfl) (hline : (apos.endLine == cpos.line) = true := by rfl)
    (ha : ∀ v, assign (.Subscript (.Name x p) ek spos) X.env v = (do
      let ov ← holding [v] (eval (.Name x p) X.env)
      let iv ← holding [v, ov] (eval ek X.env)
      standAt spos
      holding [v, ov, iv] (setItem ov iv v)
      release [v, ov, iv] []) := by intro _; rfl) (hs : swapsWithSole [.Subscript (.Name x p) ek spos] (.Call (.Attribute (.Name y py) "pop" apos) [] [] cpos) pos.line X.env = pure false := by rfl)
    (hsw : swappedStores [.Subscript (.Name x p) ek spos] (.Call (.Attribute (.Name y py) "pop" apos) [] [] cpos) X.env = pure none := by rfl)
    (h1 : (assignEach [.Subscript (.Name x p) ek spos] X.env).map (·.2) = [assign (.Subscript (.Name x p) ek spos) X.env] := by rfl) : PVS ow ow owL ro X (.Assign [.Subscript (.Name x p) ek spos] (.Call (.Attribute (.Name y py) "pop" apos) [] [] cpos) pos) (sSetPop i j fk) :=
  PVS.of (ps_asg (pe_bm0 PySem.F.plainAttrs_list PySem.F.slot_list_pop PySem.F.type_list_pop mt_pop (pe_var hNj hvy hdy hcdy) hbase hline) (pg_sub (pe_var hN hv hd hcd) hk set_list ha) hs hsw h1) fun w ρ B F H σ o B' hK hR r hg E k => by
    cases e0 : ρ.getD j none with
    | none =>
      unfold sSetPop at hg
      rw [e0] at hg
      cases hg
    | some dj =>
      cases dj with
      | lst ds =>
        unfold sSetPop at hg
        rw [e0] at hg
        have hg : ((ds[ds.length - 1]?).bind fun y => (fk (ρ.set j (some (.lst ds.dropLast))) B).bind fun s => match (ρ.set j (some (.lst ds.dropLast))).getD i none, s.1 with
          | some (.lst es), .int n => (ixN es.length n).map fun t => (Out.nx ((ρ.set j (some (.lst ds.dropLast))).set i (some (.lst (es.set t y)))), s.2)
          | _, _ => none) = some (o, B') := hg
        rw [Option.bind_eq_some_iff] at hg
        obtain ⟨yd, e1, hg⟩ := hg
        rw [Option.bind_eq_some_iff] at hg
        obtain ⟨⟨t, B1⟩, e2, hg⟩ := hg
        have e0 := getD_some e0
        have hri : i ∉ w.R.map (·.1) := hR ▸ hr
        have hrj' : j ∉ w.R.map (·.1) := hR ▸ hrj
        obtain ⟨aj, uj, qj⟩ := r.owns hwj hrj' e0
        obtain ⟨slj, nbj, nfj, atj, cj, newj⟩ := qj
        cases cj with
        | lst hds =>
          rename_i xs
          have qj : OwnAt w F H σ j (.lst ds) aj (.lst xs) := ⟨slj, nbj, nfj, atj, .lst hds, newj⟩
          have r1 := r.change hwj hrj' e0 qj (.lst hds.dropLast)
          cases e3 : (ρ.set j (some (.lst ds.dropLast))).getD i none with
          | none =>
            rw [e3] at hg
            cases hg
          | some di =>
            cases di with
            | lst es =>
              cases t with
              | int n =>
                rw [e3] at hg
                have hg : ((ixN es.length n).map fun t => (Out.nx ((ρ.set j (some (.lst ds.dropLast))).set i (some (.lst (es.set t yd)))), B1)) = some (o, B') := hg
                rw [Option.map_eq_some_iff] at hg
                obtain ⟨tt, e4, hg⟩ := hg
                cases hg
                obtain ⟨yv, e5, hy⟩ := hds.get e1
                have e3 := getD_some e3
                obtain ⟨ai, ui, qi⟩ := r1.owns hw hri e3
                obtain ⟨sli, nbi, nfi, ati, ci, newi⟩ := qi
                cases ci with
                | lst hes =>
                  rename_i ys
                  have qi : OwnAt w F (upd H aj (.lst xs.dropLast)) σ i (.lst es) ai (.lst ys) := ⟨sli, nbi, nfi, ati, .lst hes, newi⟩
                  refine ⟨.ref aj, slj, .inl ⟨rfl, _, SqL.of atj⟩, aj, xs, yv, rfl, rfl, atj, by rw [hds.length]; exact e5, ⟨.ref ai, sli, w, _, B, F, _, B', hK, hR, r1, e2, fun v2 F2 H2 g2 b2 q2 => ?_⟩⟩
                  have q' := qi.grow g2
                  exact ⟨ai, ys, n, tt, rfl, Bor.int q2, q'.at_, by rw [hes.length]; exact e4, k F2 _ σ ((r1.grow g2 b2).change hw hri e3 q' (.lst ((hes.mono g2.le).set (Den.mono g2.le hy) tt)))⟩
                | _ => rw [e3] at hg; cases hg
              | _ => rw [e3] at hg; cases hg
            | _ => rw [e3] at hg; cases hg
      | _ =>
        unfold sSetPop at hg
        rw [e0] at hg
        cases hg
end
end DL
namespace DL
open PySem PySem.Spec PyProof.Rows L2 PySem.W NS
def gRev2 : D → Option D := fun x => match x with
  | .lst ds => some (.lst ds.reverse)
  | .tup ds => some (.tup ds.reverse)
  | .str z => if z.length ≤ sizeLine then some (.str (revS z)) else none
  | _ => none
section
variable {X : Cx}
theorem pv_rev2 {ow : Mk} {ro : List Nat} {e : Expr} {fa : Ex} {k : Nat} {p1 p2 p3 pos : Pos} (he : PV .bo ow ro X e fa) : PV .st ow ro X (.Subscript e (.Slice none none (some (.UnaryOp .USub (.Constant (.int 1) k p1) p2)) p3) pos) (x1 gRev2 fa) :=
  PV.of (pe_or (pe_revA he) (pe_revL he)) fun w ρ B F H σ d B' hK hR r hf Q kk => by
    obtain ⟨x, e1, e3⟩ := x1_some hf
    cases x with
    | lst ds =>
      cases e3
      refine .inr ⟨w, ρ, B, F, _, B', hK, hR, r, e1, fun v1 F1 H1 g1 b1 q1 => ?_⟩
      obtain ⟨c, vs, rfl, hc, dc⟩ := Bor.lst g1.sub q1
      refine ⟨c, vs, rfl, SqL.of hc, fun p hp => ?_⟩
      refine kk _ (upd F1 p (.lst vs.reverse)) _ (g1.trans (Grow.laidS g1.sub hp)) (b1.laidS g1.sub hp) ?_
      exact .lst upd_same (dc.reverse.mono (same_upd_free (free_of g1.sub hp)))
    | tup ds =>
      cases e3
      refine .inl ⟨w, ρ, B, F, _, B', hK, hR, r, e1, fun v1 F1 H1 g1 b1 q1 => ?_⟩
      obtain ⟨c, vs, rfl, hc, dc⟩ := Bor.tup q1
      rw [hK] at hc
      refine .inl ⟨c, vs, rfl, sqt_same g1.sub hc, fun p hp => ?_⟩
      refine kk _ (upd F1 p (.tup vs.reverse)) _ (g1.trans (Grow.laidS g1.sub hp)) (b1.laidS g1.sub hp) ?_
      exact .tup (SqT.of upd_same) (dc.reverse.mono (same_upd_free (free_of g1.sub hp)))
    | str z =>
      refine .inl ⟨w, ρ, B, F, _, B', hK, hR, r, e1, fun v1 F1 H1 g1 b1 q1 => ?_⟩
      have ev := Bor.str q1
      subst ev
      have e3 : (if z.length ≤ sizeLine then some (D.str (revS z)) else none) = some d := e3
      by_cases hl : z.length ≤ sizeLine
      · rw [if_pos hl] at e3
        cases e3
        exact .inr ⟨z, rfl, hl, kk _ F1 H1 g1 b1 (.str _)⟩
      · rw [if_neg hl] at e3
        cases e3
    | _ => cases e3
end
end DL
namespace DL
open PySem PySem.Spec PyProof.Rows L2 PySem.W NS
section
variable {X : Cx} {ow : Mk} {ro us : List Nat} {m : Mo} {pos p : Pos} {f : Ex}
end
end DL
namespace DL
open PySem PySem.Spec PyProof.Rows L2 PySem.W NS
def KTup (K : PySem.W.Frag) (a : Addr) (vs : List V) : Prop := ∃ (o : Obj) (its : Array Value) (n : Nat), K.lookup a = some o ∧ o.cls = .type "tuple" ∧ o.data = .seq its n ∧ its.size ≤ sizeLine ∧ Vals vs its.toList
theorem ktup_mk {K : PySem.W.Frag} {a : Addr} {od : Option Addr} {its : Array Value} {n : Nat} {sl : Array (Option Value)} {vs : List V} (h : K.lookup a = some ⟨.type "tuple", od, .seq its n, sl⟩) (hz : its.size ≤ 1000) (hv : Vals vs its.toList) : KTup K a vs :=
  ⟨_, its, n, h, rfl, rfl, Nat.le_trans hz (by decide), hv⟩
section
variable {X : Cx} {ow : Mk} {ro us : List Nat} {pos p p2 apos cpos : Pos} {x : Str} {e k : Expr} {fe fk : Ex} {te tk : TE}
theorem pv_glob {a : Addr} {vs : List V} {ds : List D} (hm : X.mg x = some (.ref a)) (hk : KTup X.kx a vs) (hd : ∀ z F, Dens z F vs ds) (hg : Gl X x := by rfl) (hdb : (x == ("__debug__" : Str)) = false := by decide) : PV .st ow ro X (.Name x pos) (xC (.tup ds)) :=
  PV.of (pe_glob hg hm (v := .ref a) rfl hdb) fun w ρ B F H σ d B' hK hR r hf Q kk => by
    cases hf
    exact kk _ F H (Grow.refl r.sub) r.bag (.tup (.inr (by rw [hK]; exact hk)) (hd _ _))
end
end DL
namespace DL
open PySem PySem.Spec PyProof.Rows L2 PySem.W NS
section
variable {X : Cx} {pins : List (Addr × Obj)} {σ : L2.St} {H : Hp} {s : Shared} {a b : Addr} {kvs : List (NK × V)} {k : NK}
variable {A : Around} {E : Value → Shared → Prop} {v : V} {r : Value}
end
section
variable {z : Bs} {F : Hp}
theorem DenT.length : ∀ {vs : List (NK × V)} {ds : List (NK × D)}, DenT z F vs ds → vs.length = ds.length
  | _, _, .nil => rfl
  | _, _, .cons _ r => congrArg (· + 1) (DenT.length r)
theorem DenT.append : ∀ {vs us : List (NK × V)} {ds es : List (NK × D)}, DenT z F vs ds → DenT z F us es → DenT z F (vs ++ us) (ds ++ es)
  | _, _, _, _, .nil, r => r
  | _, _, _, _, .cons a q, r => .cons a (DenT.append q r)
theorem DenT.any : ∀ {vs : List (NK × V)} {ds : List (NK × D)} (k : NK), DenT z F vs ds → (vs.any fun kv => decide (kv.1 = k)) = (ds.any fun kv => decide (kv.1 = k))
  | _, _, _, .nil => rfl
  | _, _, k, .cons _ r => by rw [List.any_cons, List.any_cons, DenT.any k r]
theorem DenT.swap {v : V} {d : D} {k : NK} (h : Den z F v d) : ∀ {vs : List (NK × V)} {ds : List (NK × D)}, DenT z F vs ds → DenT z F (vs.map fun kv => if kv.1 = k then (kv.1, v) else kv) (ds.map fun kv => if kv.1 = k then (kv.1, d) else kv)
  | _, _, .nil => .nil
  | _, _, .cons (k := k') a r => by
    rw [List.map_cons, List.map_cons]
    by_cases e : k' = k
    · rw [if_pos e, if_pos e]
      exact .cons h (DenT.swap h r)
    · rw [if_neg e, if_neg e]
      exact .cons a (DenT.swap h r)
theorem DenT.put {vs : List (NK × V)} {ds : List (NK × D)} {v : V} {d : D} {k : NK} (q : DenT z F vs ds) (h : Den z F v d) : DenT z F (putK vs k v) (putD ds k d) := by
  unfold putK putD
  rw [q.any k]
  split
  · exact DenT.swap h q
  · exact q.append (.cons h .nil)
theorem DenT.val : ∀ {vs : List (NK × V)} {ds : List (NK × D)} {k : NK} {d : D}, DenT z F vs ds → valD ds k = some d → ∃ v, valV vs k = some v ∧ Den z F v d
  | _, _, _, _, .nil, e => by simp [valD] at e
  | _, _, k, _, .cons (k := k') a r, e => by
    unfold valD at e
    unfold valV
    rw [List.find?_cons] at e ⊢
    by_cases h : k' = k
    · have h' : decide (k' = k) = true := decide_eq_true h
      simp only [h'] at e ⊢
      cases e
      exact ⟨_, rfl, a⟩
    · have h' : decide (k' = k) = false := decide_eq_false h
      simp only [h'] at e ⊢
      exact DenT.val r e
theorem DenT.valNone : ∀ {vs : List (NK × V)} {ds : List (NK × D)} {k : NK}, DenT z F vs ds → valD ds k = none → valV vs k = none
  | _, _, _, .nil, e => rfl
  | _, _, k, .cons (k := k') a r, e => by
    unfold valD at e
    unfold valV
    rw [List.find?_cons] at e ⊢
    by_cases h : k' = k
    · have h' : decide (k' = k) = true := decide_eq_true h
      simp only [h'] at e
      cases e
    · have h' : decide (k' = k) = false := decide_eq_false h
      simp only [h'] at e ⊢
      exact DenT.valNone r e
theorem DenT.getD {vs : List (NK × V)} {ds : List (NK × D)} {k : NK} {v : V} {d : D} (q : DenT z F vs ds) (h : Den z F v d) : Den z F ((valV vs k).getD v) ((valD ds k).getD d) := by
  cases e : valD ds k with
  | none =>
    rw [q.valNone e]
    exact h
  | some y =>
    obtain ⟨u, e1, e2⟩ := q.val e
    rw [e1]
    exact e2
end
end DL
namespace DL
open PySem PySem.Spec PyProof.Rows L2 PySem.W NS
section
variable {X : Cx} {ow owL : Mk} {ro us : List Nat} {m : Mo} {a b c e k d : Expr} {fa fb fc fe fk fd : Ex} {pos apos cpos p p2 : Pos} {x : Str} {td ty tx : TE}
def x3 (g : D → D → D → Option D) (fa fb fc : Ex) : Ex := fun ρ B => (fa ρ B).bind fun p => (fb ρ p.2).bind fun q => (fc ρ q.2).bind fun s => (g p.1 q.1 s.1).map fun d => (d, s.2)
end
end DL
namespace DL
open PySem PySem.Spec PyProof.Rows L2 PySem.W NS
/-- what is made: a list, a dict -/
inductive Ck where
  | lc (elt : Expr)
  | dc (ka va : Expr)
  | sc (elt : Expr)
def Ck.ex (k : Ck) (gs : List Comprehension) (sc : Scope) (pos : Pos) : Expr := match k with
  | .lc e => .ListComp e gs sc pos
  | .dc a b => .DictComp a b gs sc pos
  | .sc e => .SetComp e gs sc pos
/-- an item is put in -/
def Ck.emit (k : Ck) (acc : Value) (env : PySem.Env) : Sem Unit := match k with
  | .lc e => do let _ ← call (.builtin "list.append") [acc, ← eval e env]
  | .dc ka va => do
    let u ← eval ka env
    let v ← holding [u] (eval va env)
    match acc with
    | .ref d => do
      standAt { ka.pos with endLine := va.pos.endLine, endCol := va.pos.endCol }
      holding [u, v] (dictSet d u v)
    | _ => unsupported "internal:dictcomp"
  | .sc e => do
    let v ← eval e env
    standAt e.pos
    let _ ← call (.builtin "set.add") [acc, v]
/-- from the clause n on -/
def Ck.rest (k : Ck) (gs : List Comprehension) (sc : Scope) (pos : Pos) (n : Nat) (acc : Value) (env : PySem.Env) (go : Sem Fin) : Sem Fin := match gs[n]? with
  | some g => do
    let x ← eval g.iter env
    standAt g.iter.pos
    let y ← foldedSetIterable g.iter env x
    let _ ← runOwn (.compStart (k.ex gs sc pos) n (← holding [y] (pyIter y)) acc env) env
    go
  | none => do
    k.emit acc env
    go
section
variable {prog : Program} {w : World} {A : Around} {R : Result → Shared → Prop} {s : Shared} {k : Ck} {gs : List Comprehension} {sc : Scope} {pos : Pos} {d : Nat} {t i : Expr} {ifs : List Expr} {acc it : Value} {env : PySem.Env}
end
/-- a clause: its text, what it asks, the slots of its names and of the later ones -/
structure Cl where
  tg : Expr
  iter : Expr
  ifs : List Expr
  wi : TI
  g : TG
  tt : TT
  vs : List Nat
def Cl.c (c : Cl) : Comprehension := ⟨c.tg, c.iter, c.ifs, 0⟩
/-- what may be said of a clause in the block -/
structure ClOk (X : Cx) (scope : Scope) (c : Cl) : Prop where
  hi : ∀ (s : Shared) (H : Hp) (C : Addr) (cl : List (Str × Addr)) (fp : List Addr), PI (X.blk s H scope (compEnvC scope cl C X.env) fp) c.tg c.iter c.wi
  hg : ∀ (s : Shared) (H : Hp) (C : Addr) (cl : List (Str × Addr)) (fp : List Addr), PG (X.blk s H scope (compEnvC scope cl C X.env) fp) c.tg c.g
  ht : ∀ (s : Shared) (H : Hp) (C : Addr) (cl : List (Str × Addr)) (fp : List Addr), PTs (X.blk s H scope (compEnvC scope cl C X.env) fp) c.ifs c.tt
  hs : ∀ env x, foldedSetIterable c.iter env x = pure x
section
variable {X : Cx} {scope : Scope} {k : Ck} {gs : List Comprehension} {pos : Pos}
end
end DL
namespace DL
open PySem PySem.Spec PyProof.Rows L2 PySem.W NS
section
variable {X : Cx} {scope : Scope} {k : Ck} {pos pos' : Pos}
end
end DL
namespace DL
open PySem PySem.Spec PyProof.Rows L2 PySem.W NS
/-- the heap but for D -/
def hid (D : Addr) (H : Hp) : Hp := fun a => if a = D then none else H a
theorem hid_ne {D a : Addr} {H : Hp} (h : a ≠ D) : hid D H a = H a := if_neg h
theorem hid_at {D : Addr} {H : Hp} : hid D H D = none := if_pos rfl
theorem hid_some {D a : Addr} {H : Hp} {o : HO} (h : hid D H a = some o) : a ≠ D ∧ H a = some o := by
  by_cases e : a = D
  · rw [e, hid_at] at h
    cases h
  · rw [hid_ne e] at h
    exact ⟨e, h⟩
theorem upd_hid {D : Addr} {H : Hp} {o : HO} (h : H D = some o) : upd (hid D H) D o = H := by
  funext a
  by_cases e : a = D
  · rw [e, upd_same, h]
  · rw [upd_ne e, hid_ne e]
theorem Grow.hid {z : Bs} {F H F' H' : Hp} {D : Addr} (g : Grow z F H F' H') (nb : D ≠ z.b) (nf : F D = none) (st : H D ≠ none) : Grow z F (hid D H) F' (hid D H') where
  le := g.le
  sub := fun a o e => by
    have n : F' D = none := g.nf D nb nf st
    rw [hid_ne (fun q => by rw [q, n] at e; cases e)]
    exact g.sub a o e
  keep := fun a o hb e => by
    obtain ⟨ne, e⟩ := hid_some e
    rw [hid_ne ne]
    exact g.keep a o hb e
  nf := fun a hb e k => by
    by_cases q : a = D
    · subst q
      exact absurd hid_at k
    · rw [hid_ne q] at k
      exact g.nf a hb e k
theorem BagAt.hid {z : Bs} {F H : Hp} {B : Bg} {D : Addr} (x : BagAt z F H B) (nb : D ≠ z.b) : BagAt z F (hid D H) B := by
  obtain ⟨h1, h2, h3⟩ := x
  exact ⟨h1, by rw [hid_ne nb.symm]; exact h2, h3⟩
/-- no slot that may change holds D -/
def FreeOf (w : Wd) (ow : Mk) (D : Addr) (ρ : Env) (σ : Sl) : Prop := ∀ i d, isOw ow i → i ∉ w.R.map (·.1) → ρ[i]? = some (some d) → σ[i]? ≠ some (some (.ref D))
/-- a target stores into its slots alone -/
class TOff (sl : List Nat) (T : Tg) : Prop where
  off : ∀ d ρ ρ', T d ρ = some ρ' → ∀ i, i ∉ sl → ρ'[i]? = ρ[i]?
class TOffs (sl : List Nat) (T : Tgs) : Prop where
  off : ∀ d ρ ρ', T d ρ = some ρ' → ∀ i, i ∉ sl → ρ'[i]? = ρ[i]?
instance toff_n {j : Nat} : TOff [j] (tN j) := ⟨fun d ρ ρ' h i hi => by
  cases h
  rw [List.getElem?_set_ne (fun z => hi (by rw [z]; exact List.mem_singleton.mpr rfl))]⟩
instance toff_t {sl : List Nat} {ts : Tgs} [h : TOffs sl ts] : TOff sl (tT ts) := ⟨fun d ρ ρ' e i hi => by
  cases d with
  | tup ds => exact h.off ds ρ ρ' e i hi
  | lst ds => first | exact h.off ds ρ ρ' e i hi | cases e
  | tn ds => first | exact h.off ds ρ ρ' e i hi | cases e
  | _ => cases e⟩
instance toffs_nil : TOffs [] tsNil := ⟨fun d ρ ρ' e i _ => by
  cases d with
  | nil => cases e; rfl
  | cons _ _ => cases e⟩
instance toffs_cons {sl sl' : List Nat} {t : Tg} {ts : Tgs} [h : TOff sl t] [h' : TOffs sl' ts] : TOffs (sl ++ sl') (tsCons t ts) := ⟨fun d ρ ρ' e i hi => by
  cases d with
  | nil => cases e
  | cons a as =>
    unfold tsCons at e
    rw [Option.bind_eq_some_iff] at e
    obtain ⟨ρ1, e1, e2⟩ := e
    rw [List.mem_append] at hi
    exact (h'.off as ρ1 ρ' e2 i fun z => hi (.inr z)).trans (h.off a ρ ρ1 e1 i fun z => hi (.inl z))⟩
theorem Rel.hid {w : Wd} {ow : Mk} {ρ : Env} {B : Bg} {F H : Hp} {σ : Sl} {D : Addr} (r : Rel w ow ρ B F H σ) (nb : D ≠ w.z.b) (nf : F D = none) (h0 : w.H0 D = none) (fr : FreeOf w ow D ρ σ) : Rel w ow ρ B F (hid D H) σ where
  gr := ⟨r.gr.le, fun a o e => by
    rw [hid_ne (fun q => by rw [q, nf] at e; cases e)]
    exact r.gr.sub a o e, fun a o hb e => by
    rw [hid_ne (fun q => by rw [q, h0] at e; cases e)]
    exact r.gr.keep a o hb e, r.gr.nf⟩
  bag := r.bag.hid nb
  set := r.set
  own := fun i d h1 h2 h3 => by
    obtain ⟨a, o, q⟩ := r.own i d h1 h2 h3
    exact ⟨a, o, q.sl, q.nb, q.nf, by
      rw [hid_ne (fun z => fr i d h1 h2 h3 (by rw [← z]; exact q.sl))]
      exact q.at_, q.c, q.new⟩
  apart := r.apart
  ro := fun p hp => ⟨(r.ro p hp).sl, (r.ro p hp).nb, (r.ro p hp).nf, (r.ro p hp).c⟩
  len := r.len
/-- .. and back -/
theorem Rel.shown {w : Wd} {ow : Mk} {ρ : Env} {B : Bg} {F H : Hp} {σ : Sl} {D : Addr} {o : HO} (r : Rel w ow ρ B F (DL.hid D H) σ) (nb : D ≠ w.z.b) (nf : F D = none) (h : H D = some o) : Rel w ow ρ B F H σ := by
  have g := (Grow.refl (z := w.z) r.sub).poke (a := D) (o := o) hid_at nf
  have b := r.bag.poke (a := D) (o := o) nb
  rw [upd_hid h] at g b
  exact r.grow g b
/-- a clause's data -/
structure Dc where
  T : Tg
  fi : Exs
  fc : Ex
  vs : List Nat
section
variable {α : Type}
end
section
variable {α : Type} {X : Cx} {ow : Mk} {ro : List Nat}
/-- a clause's texts and data -/
structure Cd (X : Cx) (ow : Mk) (ro : List Nat) where
  tg : Expr
  iter : Expr
  ifs : List Expr
  sl : List Nat
  d : Dc
def Cd.cl (c : Cd X ow ro) : Cl := ⟨c.tg, c.iter, c.ifs, canI X.kx ow ro [] c.d.fi, canG X.kx ow ro c.sl c.d.T, canT X.kx ow ro c.d.fc, c.d.vs⟩
theorem FreeOf.off {w : Wd} {D : Addr} {ρ ρ1 : Env} {σ τ : Sl} {sl vs : List Nat} {T : Tg} {d : DL.D} (h : FreeOf w ow D ρ σ) (ht : TOff sl T) (e : T d ρ = some ρ1) (o : Off sl σ τ) (hs : ∀ i ∈ sl, i ∈ vs) (hv : ∀ i ∈ vs, ow.getD i false = false) : FreeOf w ow D ρ1 τ := fun i d' hi hr q => by
  have n : i ∉ sl := fun q => by
    have := hv i (hs i q)
    rw [show ow.getD i false = true from hi] at this
    cases this
  rw [o.at_ i n]
  rw [ht.off _ _ _ e i n] at q
  exact h i d' hi hr q
end
end DL
namespace DL
open PySem PySem.Spec PyProof.Rows L2 PySem.W NS
section
variable {X : Cx} {ow owL : Mk} {ro us : List Nat} {pos : Pos} {scope : Scope} {own : List (Str × Nat)}
/-- what is known of the later clauses' parts -/
structure CdOk (X : Cx) (scope : Scope) (c : Cd X ow ro) : Prop where
  hi : ∀ (s : Shared) (H : Hp) (C : Addr) (cl : List (Str × Addr)) (fp : List Addr), PVI ow ro [] (X.blk s H scope (compEnvC scope cl C X.env) fp) c.tg c.iter c.d.fi
  hg : ∀ (s : Shared) (H : Hp) (C : Addr) (cl : List (Str × Addr)) (fp : List Addr), PVG ow ro c.sl (X.blk s H scope (compEnvC scope cl C X.env) fp) c.tg c.d.T
  ht : ∀ (s : Shared) (H : Hp) (C : Addr) (cl : List (Str × Addr)) (fp : List Addr), PVTs ow ro (X.blk s H scope (compEnvC scope cl C X.env) fp) c.ifs c.d.fc
  hs : ∀ env x, foldedSetIterable c.iter env x = pure x
theorem CdOk.cl {c : Cd X ow ro} (h : CdOk X scope c) : ClOk X scope c.cl := ⟨h.hi, h.hg, h.ht, h.hs⟩
end
end DL
namespace DL
open PySem PySem.Spec PyProof.Rows L2 PySem.W NS
section
variable {X : Cx} {ow owL : Mk} {ro us : List Nat} {pos : Pos} {scope : Scope} {own : List (Str × Nat)} {elt ka va : Expr} {fe fk fv : Ex}
end
end DL
namespace DL
open PySem PySem.Spec PyProof.Rows L2 PySem.W NS
section
variable {X : Cx} {ow owL : Mk} {ro us : List Nat} {m : Mo} {a b c e k d : Expr} {fa fb fc fe f : Ex} {pos apos cpos p p2 : Pos} {x : Str} {td ty tx : TE}
end
end DL
namespace DL
open PySem PySem.Spec PyProof.Rows L2 PySem.W NS
section
variable {X : Cx} {a b e : Expr} {f : Ex} {ow owL : List Bool} {ro : List Nat} {x : Str} {p pos apos cpos : Pos}
end
end DL
namespace DL
open PySem PySem.Spec PyProof.Rows L2 PySem.W NS
section
variable {X : Cx}
end
end DL
namespace TX
open PySem PySem.Spec PySem.Calls PySem.AutoSeq1
end TX
namespace DL
open PySem PySem.Spec PyProof.Rows L2 PySem.W NS
section
variable {X : Cx}
variable {e : Expr} {f : Ex} {ow owL : List Bool} {ro : List Nat} {x : Str} {p pos apos : Pos}
end
end DL
namespace DL
open PySem PySem.Spec PyProof.Rows L2 PySem.W NS
section
variable {X : Cx} {ow owL : Mk} {ro us : List Nat} {pos : Pos} {scope : Scope} {own : List (Str × Nat)} {ka va : Expr} {fk fv : Ex}
end
end DL
namespace DL
open PySem PySem.Spec PyProof.Rows L2 PySem.W NS
section
variable {P : Program} {w : World} {A : Around} {E : Value → Shared → Prop} {s : Shared} {d : Addr} {es : Array DictEntry} {ep : Nat} {β : Type} {bs : List β} {enc : β → PyData} {R : Value → β → Prop}
end
end DL
namespace DL
open PySem PySem.Spec PyProof.Rows L2 PySem.W NS
section
variable {X : Cx}
end
end DL
namespace DL
open PySem PySem.Spec PyProof.Rows L2 PySem.W NS
section
variable {X : Cx}
end
end DL
namespace DL
open PySem PySem.Spec PyProof.Rows L2
section
variable {X : Cx} {a b c : Expr} {fa fb fc : Ex} {ow : Mk} {ro : List Nat} {pos : Pos}
end
section
variable {X : Cx} {k : Nat} {f : Addr} {fd : FuncData} {ps : List Str} {sp : Sp} {x : Str} {p pos sp_ : Pos} {e : Expr} {te : TE}
end
end DL
namespace DL
open PySem PySem.Spec PyProof.Rows L2 PySem.W NS
section
variable {X : Cx} {pins : List (Addr × Obj)} {σ : L2.St} {H : Hp} {s : Shared} {d p : Addr} {o : Obj} {xs : List (NK × Addr × Value)}
end
section
variable {X : Cx} {ow : Mk} {ro us : List Nat} {tg e : Expr} {f : Ex}
end
section
variable {X : Cx}
end
end DL
namespace DL
open PySem PySem.Spec PyProof.Rows L2 PySem.W NS
section
variable {X : Cx} {ow : Mk} {ro : List Nat}
end
section
variable {X : Cx} {ow ow' owL : Mk} {ro : List Nat} {g h : Sx} {x : Str} {ek ev er cB : Expr} {fk fv fr fB : Ex} {sa sb : List Stmt} {p apos cpos cp bp pos : Pos}
end
end DL
namespace DL
open PySem PySem.Spec PyProof.Rows L2 PySem.W NS
section
variable {X : Cx}
end
section
variable {X : Cx} {ow : Mk} {ro us : List Nat} {pos p : Pos} {e : Expr} {f : Ex}
end
end DL
namespace DL
open PySem PySem.Spec PyProof.Rows L2 PySem.W NS
section
variable {P : Program} {w : World} {A : Around} {E : Value → Shared → Prop} {s : Shared} {d : Addr} {β : Type} {bs : List β} {enc : β → PyData} {R : Value → β → Prop}
end
section
variable {X : Cx}
end
end DL
namespace DL
open PySem PySem.Spec PyProof.Rows L2 PySem.W NS
section
variable {X : Cx} {pins : List (Addr × Obj)} {σ : L2.St} {H : Hp} {s : Shared} {pos : Pos}
end
section
variable {X : Cx} {ow : Mk} {ro : List Nat} {pos : Pos}
end
end DL
namespace NA
open PySem PySem.Spec PyProof.Rows L2
abbrev Ra := Key × Value
def entA (w : World) (R : List Ra) : List (Int × Value) := R.map fun r => (keyH w r.1, r.2)
/-- the set object at a holds the rows R -/
structure SetA (w : World) (h : Heap) (a : Addr) (R : List Ra) (es : Array (Int × Value)) (ep : Nat) (t : SetTable) : Prop where
  obj : ∃ ob, h.get? a = some ob ∧ ob.ExactSet ∧ ob.data = .set es ep t
  ent : es.toList = entA w R
  rel : ∀ r ∈ R, RelV (kV r.1) r.2
  once : (R.map Prod.fst).Nodup
  few : R.length < scanBound
  fits : t.fits es.size = true
  ris : Ris t.place.toList
  seen : w.params.followText "set-order" = true ∨ t.led = true
section
variable {P : Program} {w : World} {A : Around} {E : Value → Shared → Prop} {s : Shared} {a : Addr} {R : List Ra} {es : Array (Int × Value)} {ep : Nat} {t : SetTable}
theorem SetA.size {h : Heap} (S : SetA w h a R es ep t) : es.size = R.length := by
  rw [← Array.length_toList, S.ent]
  unfold entA
  rw [List.length_map]
end
end NA
namespace NA
open PySem PySem.Spec PyProof.Rows L2
section
variable {P : Program} {w : World} {A : Around} {E : Value → Shared → Prop} {s : Shared} {a : Addr} {R : List Ra} {es : Array (Int × Value)} {ep : Nat} {t : SetTable}
end
section
variable {P : Program} {w : World} {A : Around} {E : Value → Shared → Prop} {s : Shared} {a : Addr} {R : List Ra} {es : Array (Int × Value)} {ep : Nat} {t : SetTable}
end
end NA
namespace NA
open PySem PySem.Spec PyProof.Rows L2 PySem.W NS DL
section
variable {X : Cx}
end
end NA
namespace DL
open PySem PySem.Spec PyProof.Rows L2 PySem.W NS NA
section
variable {X : Cx} {ow : Mk} {ro us : List Nat} {pos p : Pos} {e : Expr} {f : Ex}
end
end DL
namespace DL
open PySem PySem.Spec PyProof.Rows L2 PySem.W NS
section
variable {X : Cx} {ow : Mk} {ro : List Nat} {p : Pos} {x : Str} {g : Addr} {d : D}
end
end DL
namespace DL
open PySem PySem.Spec PyProof.Rows L2 PySem.W NS
section
variable {X : Cx} {ow owL : Mk} {ro sl : List Nat} {apos cpos py pos : Pos} {y : Str} {tg : Expr} {T : Tg}
end
end DL
namespace DL
open PySem PySem.Spec PyProof.Rows L2 PySem.W NS
section
variable {X : Cx} {ow owL : Mk} {ro sl : List Nat} {pos : Pos}
end
end DL
namespace NA
open PySem PySem.Spec PyProof.Rows L2 PySem.W NS DL
section
variable {X : Cx}
variable {scope : Scope} {pos : Pos}
end
end NA
namespace DL
open PySem PySem.Spec PyProof.Rows L2 PySem.W NS NA
section
variable {X : Cx} {ow : Mk} {ro sl us : List Nat} {pos p : Pos} {tg iter elt : Expr} {fi : Exs} {T : Tg} {fc fe f : Ex} {c : Expr} {ifs : List Expr} {scope : Scope} {own : List (Str × Nat)} {vs : List Nat}
end
section
variable {X : Cx} {k : Nat} {f : Addr} {fd : FuncData} {ps : List Str} {x : Str} {p pos : Pos}
end
end DL
namespace DL
open PySem PySem.Spec PyProof.Rows L2 PySem.W NS
section
variable {X : Cx}
end
end DL
namespace DL
open PySem PySem.Spec PyProof.Rows L2 PySem.W NS
/-- a datum's type -/
def tyD : D → Option String
  | .non => some "NoneType"
  | .bl _ => some "bool"
  | .int _ => some "int"
  | .str _ => some "str"
  | .tup _ => some "tuple"
  | .tn _ => some "tuple"
  | .lst _ => some "list"
  | .dK _ => some "dict"
  | _ => none
def gInst (T : String) : D → Option D := fun x => (tyD x).bind fun t => (kitB t T).map fun b => .bl b
theorem tyx_tup {K : PySem.W.Frag} {H : Hp} {a : Addr} {xs : List V} (h : SqT K H a xs) : TyX K H (.ref a) (.type "tuple") := by
  rcases h with (h | ⟨o, h⟩) | ⟨o, its, n, h1, h2, _⟩
  · exact .base (.tup h)
  · exact .fTuple h
  · exact .kTuple h1 h2
theorem tyx_of {z : Bs} {F H : Hp} {v : V} {d : D} {t : String} (s : Same F H) (h : Bor z F H v d) (e : tyD d = some t) : TyX z.K H v (.type t) := by
  cases d with
  | non =>
    cases e
    rw [Bor.non h]
    exact .base .non
  | bl b =>
    cases e
    rw [Bor.bl h]
    exact .base (.bl b)
  | int i =>
    cases e
    rw [Bor.int h]
    exact .base (.int i)
  | str x =>
    cases e
    rw [Bor.str h]
    exact .base (.str x)
  | tup ds =>
    cases e
    obtain ⟨a, vs, rfl, ha, _⟩ := Bor.tup h
    exact tyx_tup (sqt_same s ha)
  | tn ds =>
    cases e
    obtain ⟨a, vs, rfl, ha, _⟩ := Bor.tn h
    exact tyx_tup (sqt_same (K := z.K) s ha.sqt)
  | lst ds =>
    cases e
    obtain ⟨a, vs, rfl, ha, _⟩ := Bor.lst s h
    exact .base (.lst ha)
  | dK ds =>
    cases e
    obtain ⟨a, vs, rfl, ha, _⟩ := Bor.dK s h
    rcases ha with ha | ⟨o, ha⟩
    · exact .base (.dK ha)
    · exact .fDict ha
  | _ => cases e
section
variable {X : Cx} {ow : Mk} {ro : List Nat} {a : Expr} {fa : Ex} {p p2 pos : Pos}
theorem pv_inst {T : String} {y : Str} (hm : X.mg "isinstance" = none) (hy : X.mg y = none) (hb : bootBuiltins y = some (.type T)) (ha : PV .bo ow ro X a fa) (hgl : Gl X "isinstance" := by rfl) (hg2 : Gl X y := by rfl) (hn2 : y ≠ "__name__" := by decide) (hdb2 : (y == ("__debug__" : Str)) = false := by decide)
    (he : starEach [a, .Name y p2] X.env = (false, eval a X.env) :: starEach [.Name y p2] X.env := by rfl) (he2 : starEach [.Name y p2] X.env = (false, eval (.Name y p2) X.env) :: starEach [] X.env := by rfl) (hpl : (backTo pos (starEach [.Name y p2] X.env)).any (·.1) = false := by rfl) :
    PV .st ow ro X (.Call (.Name "isinstance" p) [a, .Name y p2] [] pos) (x1 (gInst T) fa) :=
  PV.of (pe_callB call_isi hgl hm (by rfl) (pa_cons ha (pa_cons (pe_bltn hg2 hy hb (v := .ty T) rfl hn2 hdb2) pa_nil he2) he) (by decide) (by decide) he hpl) fun w ρ B F H σ d B' hK hR r hf Q k => by
    obtain ⟨x, e1, e3⟩ := x1_some hf
    unfold gInst at e3
    rw [Option.bind_eq_some_iff] at e3
    obtain ⟨t, et, e3⟩ := e3
    rw [Option.map_eq_some_iff] at e3
    obtain ⟨b, eb, rfl⟩ := e3
    refine ⟨w, ρ, B, F, x, B', hK, hR, r, e1, fun v F1 H1 g1 b1 q1 => ?_⟩
    have ty := tyx_of g1.sub q1 et
    rw [hK] at ty
    exact ⟨v, .ty T, .type t, .type T, b, rfl, .ty T, ty, kit_ty eb, k _ F1 H1 g1 b1 (.bl b)⟩
end
section
variable {X : Cx} {ow owL : Mk} {ro : List Nat}
end
end DL
namespace PySem
namespace TooX
open PySem.W PySem.Calls PyProof.Rows PySem.HandSPX
section
variable {prog : Program} {w : World} {M : Model} {A : Around} {E : Value → Shared → Prop} {h : Heap} {g : Array GenState} {d : Drawn} {t : Nat} {os : OsState}
variable {nm q : Str} {C N : Addr} {bs bm : List Value} {hdct : Bool} {sn : List Str} {sub : List Value} {ab : Bool} {col : Option Bool} {dd : Option Addr} {k0 k1 k2 k3 k5 : Option Value}
end
end TooX
end PySem
namespace PySem
namespace TooX
open PySem.W PySem.Calls PyProof.Rows PySem.HandSPX
section
variable {prog : Program} {w : World} {A : Around} {E : Value → Shared → Prop} {R : Result → Shared → Prop} {s : Shared} {K : Frag} {mg : Str → Option Value} {C fI : Addr} {nmC : Str}
end
end TooX
end PySem
namespace DL
open PySem PySem.Spec PyProof.Rows L2 PySem.TooX
/-- an own error of the class at C, d its field -/
def Xr (C : Addr) (d : D) (z : Bs) (F H : Hp) (cls : Value) (dd : Option Addr) : Prop := cls = .ref C ∧ ∃ p v, dd = some p ∧ H p = some (.xd [(("most" : Str), v)]) ∧ Den z F v d
abbrev Gx := Env → Bg → Option (D × Bg)
section
variable {X : Cx} {C fI : Addr} {nmC : Str}
end
section
variable {X : Cx} {C fI : Addr} {nmC : Str} {ow ow1 owL : Mk} {ro : List Nat} {s : Stmt} {ss sa sb : List Stmt} {g : Sx} {h ga gb bx : Gx} {pos : Pos}
end
end DL
namespace DL
open PySem PySem.Spec PyProof.Rows L2 PySem.TooX
abbrev FnX1 := List D → Bg → Option (D × Bg)
/-- the promise of a def that raises: over data, fx tells the error's field -/
def spX (K : Kx) (C : Addr) (n : Nat) (fx : FnX1) : List V → Hp → XK → Prop := fun vs H E => ∃ (z : Bs) (F : Hp) (B : Bg) (ds : List D) (d : D) (B' : Bg), z.K = K ∧ vs.length = n ∧ Same F H ∧ BagAt z F H B ∧ Dens z F vs ds ∧ fx ds B = some (d, B') ∧
  ∀ cls dd F' H', Grow z F H F' H' → BagAt z F' H' B' → Xr C d z F' H' cls dd → E cls dd H'
structure FnX (P : Program) (w : World) (K : PySem.W.Frag) (mg : Str → Option Value) (base : Heap) (k : Nat) (f : Addr) (fd : FuncData) (ps : List Str) (C : Addr) (fx : FnX1) : Prop where
  run : ∀ (A : Around) (outer : List PySem.Env) (s : Shared) (H : Hp) (args : Args) (us : List Value) (vs : List V) (E : XK), Room k A → A.guards = some [] → Env0 P w K mg base A outer s H → BindsTo s fd args (ps.zip us) → Vals vs us → spX ⟨K, P, w⟩ C ps.length fx vs H E →
    codeAny (model P w) A (.call (.ref f) args) (CR (L2N.CX P w) outer P w H s (fun _ _ => False) E) s
theorem FnX.mono {P : Program} {w : World} {K : PySem.W.Frag} {mg : Str → Option Value} {base : Heap} {j k : Nat} {f : Addr} {fd : FuncData} {ps : List Str} {C : Addr} {fx : FnX1} (h : FnX P w K mg base j f fd ps C fx) (hj : j ≤ k) : FnX P w K mg base k f fd ps C fx :=
  ⟨fun A outer s H args us vs E hr => h.run A outer s H args us vs E (hr.mono hj)⟩
section
variable {X : Cx} {C fI f : Addr} {k : Nat} {fd : FuncData} {ps : List Str} {fx : FnX1} {sp : Sp} {x : Str} {p pos : Pos} {e : Expr} {es : List Expr} {t : TA} {W : WX}
end
end DL
namespace DL
open PySem PySem.Spec PyProof.Rows L2 PySem.TooX
section
variable {X : Cx} {C fI : Addr} {nmC : Str}
end
section
variable {X : Cx} {C fI f fa : Addr} {nmC n x xa : Str} {k ka : Nat} {fd fda : FuncData} {ps psa : List Str} {fx : FnX1} {ma : Fn} {e : Expr} {es : List Expr} {fs : Exs} {ms : List Mo} {ow ow' owL : Mk} {ro : List Nat} {kk : Int} {j : Nat} {p p1 p2 p3 p4 p5 p6 p7 pa np pos pos' : Pos}
end
end DL
namespace DL
open PySem PySem.Spec PyProof.Rows L2 PySem.TooX
section
variable {X : Cx} {C : Addr} {ow ow' owL : Mk} {ro : List Nat} {s : Stmt} {ss : List Stmt} {g : Sx} {h : Gx} {e : Expr} {f : Ex} {m : Mo}
end
end DL
namespace PySem
namespace BigR
open PySem.W PyProof.Rows
section
variable {prog : Program} {w : World} {A : Around} {E : Value → Shared → Prop} {s : Shared}
end
end BigR
end PySem
namespace DL
open PySem PySem.Spec PyProof.Rows L2
def bigPair : D → Option D
  | .tup [.int i, .int j] => if i.natAbs.log2 < 12000 ∧ j.natAbs.log2 < 12000 then some (.str (tupleText [Str.ofString (toString i), Str.ofString (toString j)])) else none
  | _ => none
/-- repr, of pairs of great whole numbers too -/
def gReprB (x : D) : Option D := match gRepr x with
  | some d => some d
  | none => bigPair x
theorem gReprB_of {x d : D} (h : gRepr x = some d) : gReprB x = some d := by
  unfold gReprB
  rw [h]
section
variable {X : Cx}
end
end DL
namespace DL
open PySem PySem.Spec PyProof.Rows L2
section
variable {X : Cx} {C : Addr} {ow : Mk} {ro sl : List Nat} {pos : Pos} {e tg : Expr} {ss : List Stmt} {fi : Exs} {T : Tg} {body : Sx} {bx : Gx}
end
end DL
namespace DL
open PySem PySem.Spec PyProof.Rows L2
section
variable {X : Cx} {ow : Mk} {ro us : List Nat} {m : Mo} {pos p : Pos} {a b e : Expr} {fs : Exs}
end
end DL
namespace DL
open PySem PySem.Spec PyProof.Rows L2 PySem.W NS
theorem fng_none {P : Program} {w : World} {K : PySem.W.Frag} {mg : Str → Option Value} {base : Heap} {k : Nat} {f : Addr} {fd : FuncData} {ps : List Str} {Kx' : Kx} {n : Nat} : FnG P w K mg base k f fd ps (spV Kx' n fun _ _ => none) :=
  ⟨fun vs H Q E ⟨_, _, _, _, _, _, _, _, _, _, _, h, _⟩ => (nomatch h), fun A outer s H args us vs Q _ _ _ _ _ ⟨_, _, _, _, _, _, _, _, _, _, _, h, _⟩ => (nomatch h)⟩
def gUpper : D → Option D := fun x => match x with
  | .str a => if a.length ≤ 5592405 then some (.str (Txt.upper a)) else none
  | _ => none
section
variable {X : Cx} {ow : Mk} {ro : List Nat} {a : Expr} {fa : Ex} {p pos apos : Pos} {x : Str}
theorem pv_upper (ha : PV .bo ow ro X a fa) (hbase : attributeBase a "upper" X.env (eval a X.env) = eval a X.env := by rfl) (hline : (apos.endLine == pos.line) = true := by rfl) : PV .st ow ro X (.Call (.Attribute a "upper" apos) [] [] pos) (x1 gUpper fa) :=
  PV.of (pe_upper ha hbase hline) fun w ρ B F H σ d B' hK hR r hf Q k => by
    obtain ⟨x, e1, e3⟩ := x1_some hf
    cases x with
    | str z =>
      have e3 : (if z.length ≤ 5592405 then some (D.str (Txt.upper z)) else none) = some d := e3
      by_cases hl : z.length ≤ 5592405
      · rw [if_pos hl] at e3
        cases e3
        refine ⟨w, ρ, B, F, _, B', hK, hR, r, e1, fun v F1 H1 g1 b1 q1 => ?_⟩
        have ev := Bor.str q1
        subst ev
        exact ⟨⟨_, rfl⟩, z, rfl, rfl, hl, k _ F1 H1 g1 b1 (.str _)⟩
      · rw [if_neg hl] at e3
        cases e3
    | _ => cases e3
def gStrI : D → Option D := fun x => match x with
  | .int i => if i.natAbs.log2 < 1920 then some (.str (toString i)) else none
  | _ => none
theorem ok_strI (K : Kx) : UnOk K .st (fun v H Q => ∃ i, [v] = [.int i] ∧ i.natAbs.log2 < 1920 ∧ Q (.str (toString i)) H) gStrI := fun z F H B x dx d hK s bg h1 e Q k => by
  cases dx with
  | int i =>
    have e : (if i.natAbs.log2 < 1920 then some (D.str (toString i)) else none) = some d := e
    by_cases hl : i.natAbs.log2 < 1920
    · rw [if_pos hl] at e
      cases e
      exact ⟨i, by rw [Bor.int h1], hl, k _ F H (Grow.refl s) bg (.str _)⟩
    · rw [if_neg hl] at e
      cases e
  | _ => cases e
theorem pv_strI (hm : X.mg "str" = none) (ha : PV .bo ow ro X a fa) (hgl : Gl X "str" := by rfl) (he : starEach [a] X.env = (false, eval a X.env) :: starEach [] X.env := by rfl) (hpl : (backTo pos (starEach [] X.env)).any (·.1) = false := by rfl) : PV .st ow ro X (.Call (.Name "str" p) [a] [] pos) (x1 gStrI fa) :=
  pv_callT1 call_str_int (ok_strI _) hm (by decide +kernel) ha hgl (by decide) (by decide) he hpl
end
def isAt : D → Bool
  | .non => true
  | .bl _ => true
  | .int _ => true
  | .str _ => true
  | _ => false
def keyPyD : Key → PyData
  | .inl i => .int i
  | .inr x => .str x
mutual
def D.pyK : D → PyData
  | .tup ds => .tuple (pyKL ds)
  | .tn ds => .tuple (pyKL ds)
  | .dK kvs => .dict (pyKK kvs)
  | .non => .none
  | .bl b => .bool b
  | .int i => .int i
  | .str x => .str x
  | _ => .none
def pyKL : List D → List PyData
  | [] => []
  | d :: ds => d.pyK :: pyKL ds
def pyKK : List (Key × D) → List (PyData × PyData)
  | [] => []
  | (k, d) :: r => (keyPyD k, d.pyK) :: pyKK r
end
mutual
def D.plainK : D → Bool
  | .tup ds => plainKL ds
  | .tn ds => plainKL ds
  | .dK kvs => plainKK kvs
  | .non => true
  | .bl _ => true
  | .int _ => true
  | .str _ => true
  | _ => false
def plainKL : List D → Bool
  | [] => true
  | d :: ds => d.plainK && plainKL ds
def plainKK : List (Key × D) → Bool
  | [] => true
  | (_, d) :: r => isAt d && plainKK r
end
section
variable {X : Cx} {pins : List (Addr × Obj)} {σ : Sl} {H : Hp} {s : Shared} {z : Bs} {F : Hp}
theorem at_reads {v : V} {d : D} {u : Value} (h : Den z F v d) (p : isAt d = true) (r : RelV v u) : Reads s.heap u d.pyK [] := by
  cases h with
  | non =>
    cases r
    unfold D.pyK
    exact Reads.none
  | bl k =>
    cases r
    unfold D.pyK
    exact Reads.bool k
  | int i =>
    obtain ⟨t, rfl⟩ := r
    unfold D.pyK
    exact Reads.int i t
  | str x =>
    obtain ⟨t, rfl⟩ := r
    unfold D.pyK
    exact Reads.str x t
  | tup _ _ => cases p
  | lst _ _ => cases p
  | dK _ _ => cases p
  | dT _ _ _ => cases p
  | bag => cases p
  | tn _ _ => cases p
theorem pairs_read (hK : z.K = X.kx) : ∀ {vs : List (Key × V)} {ds : List (Key × D)} {us : List (Key × Value)}, DenK z F vs ds → plainKK ds = true → KV vs us → PyProof.V.PairsRead s.heap keyPyD us (pyKK ds) []
  | _, _, _, .nil, _, r => by
    cases r
    unfold pyKK
    exact .nil
  | _, _, _, .cons a rest, p, r => by
    cases r with
    | cons h hr =>
      unfold plainKK at p
      rw [Bool.and_eq_true] at p
      obtain ⟨e, rv⟩ := h
      have q := pairs_read hK rest p.2 hr
      have q1 := at_reads (s := s) a p.1 rv
      unfold pyKK
      subst e
      exact .cons q1 q
theorem key_reads : ∀ (k : Key) (key : Value), (mixKind X.prog X.w).is k key = true → Reads s.heap key (keyPyD k) [] := fun k key h => by
  rcases keyIs_shape h with ⟨i, t, rfl, rfl⟩ | ⟨x, t, rfl, rfl⟩
  · exact Reads.int i t
  · exact Reads.str x t
mutual
theorem Den.readsK (I : Inv X pins σ H s) (hK : z.K = X.kx) (sm : Same F H) : ∀ {v : V} {d : D} {u : Value}, Den z F v d → d.plainK = true → RelV v u → ∃ as, Reads s.heap u d.pyK as ∧ sysModules ∉ as
  | _, _, _, .non, _, r => ⟨[], at_reads (z := z) (F := F) .non rfl r, List.not_mem_nil⟩
  | _, _, _, .bl k, _, r => ⟨[], at_reads (z := z) (F := F) (.bl k) rfl r, List.not_mem_nil⟩
  | _, _, _, .int i, _, r => ⟨[], at_reads (z := z) (F := F) (.int i) rfl r, List.not_mem_nil⟩
  | _, _, _, .str x, _, r => ⟨[], at_reads (z := z) (F := F) (.str x) rfl r, List.not_mem_nil⟩
  | _, _, _, .tup e ds, p, r => by
    cases r
    have e' := sqt_same sm e
    rw [hK] at e'
    obtain ⟨its, rv, ⟨o, ho, hc, n, hd⟩, _⟩ := I.tuple e'
    unfold D.plainK at p
    obtain ⟨as, h1, h2⟩ := Dens.readsK I hK sm ds p rv
    unfold D.pyK
    exact ⟨as, Reads.tuple ho hc hd h1, h2⟩
  | _, _, _, .tn e ds, p, r => by
    cases r
    have e' := sqt_same (K := z.K) sm e.sqt
    rw [hK] at e'
    obtain ⟨its, rv, ⟨o, ho, hc, n, hd⟩, _⟩ := I.tuple e'
    unfold D.plainK at p
    obtain ⟨as, h1, h2⟩ := Dens.readsK I hK sm ds p rv
    unfold D.pyK
    exact ⟨as, Reads.tuple ho hc hd h1, h2⟩
  | _, _, _, .dK (a := a) e ds, p, r => by
    cases r
    have ok := I.hok a _ (sm _ _ e)
    obtain ⟨_, _, ne, us, kv, dd⟩ := ok
    unfold D.plainK at p
    unfold D.pyK
    refine ⟨_, PyProof.V.reads_dictOf key_reads dd (pairs_read hK ds p kv), ?_⟩
    intro hm
    rcases List.mem_cons.mp hm with e1 | hm
    · rw [← e1] at ne
      exact absurd ne (by decide)
    · exact absurd hm List.not_mem_nil
  | _, _, _, .lst _ _, p, _ => by
    unfold D.plainK at p
    cases p
  | _, _, _, .dT _ _ _, p, _ => by
    unfold D.plainK at p
    cases p
  | _, _, _, .bag, p, _ => by
    unfold D.plainK at p
    cases p
theorem Dens.readsK (I : Inv X pins σ H s) (hK : z.K = X.kx) (sm : Same F H) : ∀ {vs : List V} {ds : List D} {us : List Value}, Dens z F vs ds → plainKL ds = true → Vals vs us → ∃ as, ReadsAll s.heap us (pyKL ds) as ∧ sysModules ∉ as
  | _, _, _, .nil, _, r => by
    cases r
    unfold pyKL
    exact ⟨[], .nil, List.not_mem_nil⟩
  | _, _, _, .cons a rest, p, r => by
    cases r with
    | cons rv rs =>
      unfold plainKL at p
      rw [Bool.and_eq_true] at p
      obtain ⟨as, h1, h2⟩ := Den.readsK I hK sm a p.1 rv
      obtain ⟨bs, h3, h4⟩ := Dens.readsK I hK sm rest p.2 rs
      unfold pyKL
      exact ⟨as ++ bs, .cons h1 h3, fun hm => (List.mem_append.mp hm).elim h2 h4⟩
end
end
/-- repr, of tuples that hold dicts too -/
def showOkK (x : D) : Bool := x.plainK && x.pyK.showable && decide (x.pyK.depth < 64) && decide (x.pyK.shown.length ≤ sizeLine)
def gReprK : D → Option D := fun x => match gRepr x with
  | some d => some d
  | none => match x with
    | .tup ds => if showOkK (.tup ds) then some (.str (D.tup ds).pyK.shown) else none
    | .tn ds => if showOkK (.tn ds) then some (.str (D.tn ds).pyK.shown) else none
    | _ => none
theorem gReprK_of {x d : D} (h : gRepr x = some d) : gReprK x = some d := by
  unfold gReprK
  rw [h]
def rReprK (K : Kx) : List V → Hp → VK → Prop := fun xs H Q => rRepr K xs H Q ∨ ∃ (z : Bs) (F : Hp) (a : Addr) (d : D), z.K = K ∧ Same F H ∧ xs = [.ref a] ∧ Den z F (.ref a) d ∧ showOkK d = true ∧ Q (.str d.pyK.shown) H
section
variable {X : Cx}
theorem call_reprK (hg : X.A.guards = some []) (hu : X.A.units + 64 < cLine) : CallR X (.builtin "repr") (rReprK X.kx) := by
  intro pins s σ H xs us Q I r h
  rcases h with h | ⟨z, F, a, d, hK, sm, rfl, hd, ok, q⟩
  · exact call_reprD hg hu pins s σ H xs us Q I r h
  · unfold showOkK at ok
    rw [Bool.and_eq_true, Bool.and_eq_true, Bool.and_eq_true, decide_eq_true_eq, decide_eq_true_eq] at ok
    obtain ⟨⟨⟨h1, h2⟩, h3⟩, h4⟩ := ok
    obtain ⟨u, rfl, ru⟩ := vals1 r
    obtain ⟨as, rr, hs⟩ := Den.readsK I hK sm hd h1 ru
    cases ru
    exact repr_of_reads' rr h2 (fun _ => hs) hg (by omega) (fun _ _ e => e) (fun h' u tk hk => ⟨.str _, H, I.kept (t' := tk) hk, ⟨_, rfl⟩, q⟩) h4
theorem ok_reprK : UnOk X.kx .st (fun v H Q => rReprK X.kx [v] H Q) gReprK := fun z F H B x dx d hK s bg h1 e Q k => by
  unfold gReprK at e
  cases g : gRepr dx with
  | some d' =>
    rw [g] at e
    cases e
    exact .inl (ok_repr z F H B x dx d hK s bg h1 g Q k)
  | none =>
    rw [g] at e
    have fin : ∀ (dx : D), (∃ a, x = .ref a) → Den z F x dx → showOkK dx = true → d = .str dx.pyK.shown → rReprK X.kx [x] H Q := fun dx ⟨a, ea⟩ h1 h2 e => by
      subst ea
      subst e
      exact .inr ⟨z, F, a, dx, hK, s, rfl, h1, h2, k _ F H (Grow.refl s) bg (.str _)⟩
    cases dx with
    | tup ds =>
      have e : (if showOkK (.tup ds) = true then some (D.str (D.tup ds).pyK.shown) else none) = some d := e
      by_cases hl : showOkK (.tup ds) = true
      · rw [if_pos hl] at e
        cases e
        obtain ⟨a, vs, rfl, ha, da⟩ := Bor.tup h1
        exact fin _ ⟨a, rfl⟩ (.tup ha da) hl rfl
      · rw [if_neg hl] at e
        cases e
    | tn ds =>
      have e : (if showOkK (.tn ds) = true then some (D.str (D.tn ds).pyK.shown) else none) = some d := e
      by_cases hl : showOkK (.tn ds) = true
      · rw [if_pos hl] at e
        cases e
        obtain ⟨a, vs, rfl, ha, da⟩ := Bor.tn h1
        exact fin _ ⟨a, rfl⟩ (.tn ha da) hl rfl
      · rw [if_neg hl] at e
        cases e
    | _ => cases e
end
end DL
namespace DL
open PySem PySem.Spec PyProof.Rows L2
def topS (i : Nat) : Stmt := PySem.Challenge.pw_hownarrow_k03_edges_corners_labels_of_an.main.body.getD i (.Pass ⟨0, 0, 0, 0⟩)
abbrev s_is_integer : Stmt := topS 2
abbrev N_is_integer : List Str := ["thing"]
theorem sc_is_integer : FnScope N_is_integer ["thing"] (defScope s_is_integer) := ⟨rfl, rfl, rfl, by decide +kernel, rfl, by decide +kernel, by decide +kernel⟩
abbrev s_is_below : Stmt := topS 3
abbrev N_is_below : List Str := ["thing", "many"]
theorem sc_is_below : FnScope N_is_below ["thing", "many"] (defScope s_is_below) := ⟨rfl, rfl, rfl, by decide +kernel, rfl, by decide +kernel, by decide +kernel⟩
abbrev s_are_parts : Stmt := topS 4
abbrev N_are_parts : List Str := ["thing", "many"]
theorem sc_are_parts : FnScope N_are_parts ["thing", "many"] (defScope s_are_parts) := ⟨rfl, rfl, rfl, by decide +kernel, rfl, by decide +kernel, by decide +kernel⟩
abbrev s_beside : Stmt := topS 5
abbrev N_beside : List Str := ["rights", "ups", "corner", "cell", "x", "y", "found"]
theorem sc_beside : FnScope N_beside ["rights", "ups", "corner"] (defScope s_beside) := ⟨rfl, rfl, rfl, by decide +kernel, rfl, by decide +kernel, by decide +kernel⟩
abbrev s_corners_at : Stmt := topS 6
abbrev N_corners_at : List Str := ["rights", "ups", "corner", "found", "at", "other"]
theorem sc_corners_at : FnScope N_corners_at ["rights", "ups", "corner"] (defScope s_corners_at) := ⟨rfl, rfl, rfl, by decide +kernel, rfl, by decide +kernel, by decide +kernel⟩
abbrev s_is_edge_of : Stmt := topS 7
abbrev N_is_edge_of : List Str := ["rights", "ups", "thing", "word", "cell"]
theorem sc_is_edge_of : FnScope N_is_edge_of ["rights", "ups", "thing"] (defScope s_is_edge_of) := ⟨rfl, rfl, rfl, by decide +kernel, rfl, by decide +kernel, by decide +kernel⟩
abbrev s_is_corner_of : Stmt := topS 8
abbrev N_is_corner_of : List Str := ["size", "thing"]
theorem sc_is_corner_of : FnScope N_is_corner_of ["size", "thing"] (defScope s_is_corner_of) := ⟨rfl, rfl, rfl, by decide +kernel, rfl, by decide +kernel, by decide +kernel⟩
abbrev s_is_edge : Stmt := topS 9
abbrev N_is_edge : List Str := ["table", "thing"]
theorem sc_is_edge : FnScope N_is_edge ["table", "thing"] (defScope s_is_edge) := ⟨rfl, rfl, rfl, by decide +kernel, rfl, by decide +kernel, by decide +kernel⟩
abbrev s_is_corner : Stmt := topS 10
abbrev N_is_corner : List Str := ["table", "thing"]
theorem sc_is_corner : FnScope N_is_corner ["table", "thing"] (defScope s_is_corner) := ⟨rfl, rfl, rfl, by decide +kernel, rfl, by decide +kernel, by decide +kernel⟩
abbrev s_is_label : Stmt := topS 11
abbrev N_is_label : List Str := ["table", "thing"]
theorem sc_is_label : FnScope N_is_label ["table", "thing"] (defScope s_is_label) := ⟨rfl, rfl, rfl, by decide +kernel, rfl, by decide +kernel, by decide +kernel⟩
abbrev s_law_bag : Stmt := topS 13
abbrev N_law_bag : List Str := ["_law_script", "_law_cell"]
theorem sc_law_bag : FnScope N_law_bag ["_law_script"] (defScope s_law_bag) := ⟨rfl, rfl, rfl, by decide +kernel, rfl, by decide +kernel, by decide +kernel⟩
abbrev s_law_take : Stmt := topS 14
abbrev N_law_take : List Str := ["_law_bag_here", "_law_many", "_law_cell", "_law_stirred", "_law_value", "_law_begin", "_law_second"]
theorem sc_law_take : FnScope N_law_take ["_law_bag_here", "_law_many"] (defScope s_law_take) := ⟨rfl, rfl, rfl, by decide +kernel, rfl, by decide +kernel, by decide +kernel⟩
abbrev s_law_some : Stmt := topS 15
abbrev N_law_some : List Str := ["_law_bag_here", "_law_things"]
theorem sc_law_some : FnScope N_law_some ["_law_bag_here", "_law_things"] (defScope s_law_some) := ⟨rfl, rfl, rfl, by decide +kernel, rfl, by decide +kernel, by decide +kernel⟩
abbrev s_law_mixed : Stmt := topS 16
abbrev N_law_mixed : List Str := ["_law_bag_here", "_law_things", "_law_found", "_law_thing"]
theorem sc_law_mixed : FnScope N_law_mixed ["_law_bag_here", "_law_things"] (defScope s_law_mixed) := ⟨rfl, rfl, rfl, by decide +kernel, rfl, by decide +kernel, by decide +kernel⟩
abbrev s_law_alike : Stmt := topS 17
abbrev N_law_alike : List Str := ["_law_found", "_law_due"]
theorem sc_law_alike : FnScope N_law_alike ["_law_found", "_law_due"] (defScope s_law_alike) := ⟨rfl, rfl, rfl, by decide +kernel, rfl, by decide +kernel, by decide +kernel⟩
abbrev s_law_is_int : Stmt := topS 18
abbrev N_law_is_int : List Str := ["_law_thing"]
theorem sc_law_is_int : FnScope N_law_is_int ["_law_thing"] (defScope s_law_is_int) := ⟨rfl, rfl, rfl, by decide +kernel, rfl, by decide +kernel, by decide +kernel⟩
abbrev s_law_joins : Stmt := topS 19
abbrev N_law_joins : List Str := ["_law_bag_here", "_law_size", "_law_kind", "_law_spots", "_law_cell", "_law_near", "_law_x", "_law_y", "_law_rights", "_law_ups", "_law_spot"]
theorem sc_law_joins : FnScope N_law_joins ["_law_bag_here", "_law_size"] (defScope s_law_joins) := ⟨rfl, rfl, rfl, by decide +kernel, rfl, by decide +kernel, by decide +kernel⟩
abbrev s_law_gated : Stmt := topS 20
abbrev N_law_gated : List Str := ["_law_bag_here", "_law_joins_here", "_law_free", "_law_found", "_law_cell"]
theorem sc_law_gated : FnScope N_law_gated ["_law_bag_here", "_law_joins_here"] (defScope s_law_gated) := ⟨rfl, rfl, rfl, by decide +kernel, rfl, by decide +kernel, by decide +kernel⟩
abbrev s_law_edges_of : Stmt := topS 21
abbrev N_law_edges_of : List Str := ["_law_rights", "_law_ups", "_law_cells", "_law_found", "_law_c"]
theorem sc_law_edges_of : FnScope N_law_edges_of ["_law_rights", "_law_ups"] (defScope s_law_edges_of) := ⟨rfl, rfl, rfl, by decide +kernel, rfl, by decide +kernel, by decide +kernel⟩
abbrev s_law_edges : Stmt := topS 22
abbrev N_law_edges : List Str := ["_law_table_here"]
theorem sc_law_edges : FnScope N_law_edges ["_law_table_here"] (defScope s_law_edges) := ⟨rfl, rfl, rfl, by decide +kernel, rfl, by decide +kernel, by decide +kernel⟩
abbrev s_law_permutation : Stmt := topS 23
abbrev N_law_permutation : List Str := ["_law_bag_here", "_law_many", "_law_is_turn", "_law_by", "_law_moved", "_law_order", "_law_at"]
theorem sc_law_permutation : FnScope N_law_permutation ["_law_bag_here", "_law_many", "_law_is_turn"] (defScope s_law_permutation) := ⟨rfl, rfl, rfl, by decide +kernel, rfl, by decide +kernel, by decide +kernel⟩
abbrev s_law_dials : Stmt := topS 24
abbrev N_law_dials : List Str := ["_law_bag_here", "_law_edges_here", "_law_marks", "_law_is_turn", "_law_found", "_law_edge"]
theorem sc_law_dials : FnScope N_law_dials ["_law_bag_here", "_law_edges_here", "_law_marks"] (defScope s_law_dials) := ⟨rfl, rfl, rfl, by decide +kernel, rfl, by decide +kernel, by decide +kernel⟩
abbrev s_law_name : Stmt := topS 25
abbrev N_law_name : List Str := ["_law_bag_here"]
theorem sc_law_name : FnScope N_law_name ["_law_bag_here"] (defScope s_law_name) := ⟨rfl, rfl, rfl, by decide +kernel, rfl, by decide +kernel, by decide +kernel⟩
abbrev s_law_table : Stmt := topS 26
abbrev N_law_table : List Str := ["_law_bag_here", "_law_most", "_law_size", "_law_marks", "_law_rights", "_law_ups", "_law_bare", "_law_points_here", "_law_some_here", "_law_point"]
theorem sc_law_table : FnScope N_law_table ["_law_bag_here", "_law_most"] (defScope s_law_table) := ⟨rfl, rfl, rfl, by decide +kernel, rfl, by decide +kernel, by decide +kernel⟩
abbrev s_law_corners : Stmt := topS 27
abbrev N_law_corners : List Str := ["_law_table_here", "_law_found", "_law_cell"]
theorem sc_law_corners : FnScope N_law_corners ["_law_table_here"] (defScope s_law_corners) := ⟨rfl, rfl, rfl, by decide +kernel, rfl, by decide +kernel, by decide +kernel⟩
abbrev s_law_beside : Stmt := topS 28
abbrev N_law_beside : List Str := ["_law_table_here", "_law_corner", "_law_cell", "_law_x", "_law_y", "_law_beside_here", "_law_above", "_law_found"]
theorem sc_law_beside : FnScope N_law_beside ["_law_table_here", "_law_corner"] (defScope s_law_beside) := ⟨rfl, rfl, rfl, by decide +kernel, rfl, by decide +kernel, by decide +kernel⟩
abbrev s_law_point_of : Stmt := topS 29
abbrev N_law_point_of : List Str := ["_law_table_here", "_law_corner", "_law_found", "_law_at", "_law_one"]
theorem sc_law_point_of : FnScope N_law_point_of ["_law_table_here", "_law_corner"] (defScope s_law_point_of) := ⟨rfl, rfl, rfl, by decide +kernel, rfl, by decide +kernel, by decide +kernel⟩
abbrev s_law_points : Stmt := topS 30
abbrev N_law_points : List Str := ["_law_table_here", "_law_corner"]
theorem sc_law_points : FnScope N_law_points ["_law_table_here"] (defScope s_law_points) := ⟨rfl, rfl, rfl, by decide +kernel, rfl, by decide +kernel, by decide +kernel⟩
abbrev s_law_labels : Stmt := topS 31
abbrev N_law_labels : List Str := ["_law_table_here", "_law_found", "_law_corner", "_law_mark"]
theorem sc_law_labels : FnScope N_law_labels ["_law_table_here"] (defScope s_law_labels) := ⟨rfl, rfl, rfl, by decide +kernel, rfl, by decide +kernel, by decide +kernel⟩
abbrev s_law_is_one_of : Stmt := topS 32
abbrev N_law_is_one_of : List Str := ["_law_thing", "_law_some_here", "_law_one"]
theorem sc_law_is_one_of : FnScope N_law_is_one_of ["_law_thing", "_law_some_here"] (defScope s_law_is_one_of) := ⟨rfl, rfl, rfl, by decide +kernel, rfl, by decide +kernel, by decide +kernel⟩
abbrev s_law_odd : Stmt := topS 33
abbrev N_law_odd : List Str := ["_law_bag_here", "_law_some_here"]
theorem sc_law_odd : FnScope N_law_odd ["_law_bag_here"] (defScope s_law_odd) := ⟨rfl, rfl, rfl, by decide +kernel, rfl, by decide +kernel, by decide +kernel⟩
abbrev s_law_bent : Stmt := topS 34
abbrev N_law_bent : List Str := ["_law_bag_here", "_law_thing", "_law_deep", "_law_way", "_law_at"]
theorem sc_law_bent : FnScope N_law_bent ["_law_bag_here", "_law_thing", "_law_deep"] (defScope s_law_bent) := ⟨rfl, rfl, rfl, by decide +kernel, rfl, by decide +kernel, by decide +kernel⟩
abbrev s_law : Stmt := topS 35
abbrev N_law : List Str := ["_law_script", "_law_bag_here", "_law_turn", "_law_table_here", "_law_said", "_law_edges_here", "_law_corners_here", "_law_labels_here", "_law_size", "_law_marks", "_law_some_here", "_law_thing", "_law_due", "_law_corner", "_law_word", "_law_k"]
theorem sc_law : FnScope N_law ["_law_script"] (defScope s_law) := ⟨rfl, rfl, rfl, by decide +kernel, rfl, by decide +kernel, by decide +kernel⟩
abbrev fuel : Nat := 1000000
def b_is_integer : Sx := (sRet (xAnd (x1 (gInst "int") (xV 0)) (xNot (x1 (gInst "bool") (xV 0)))))
def m_is_integer : Fn := fnOf 1 1 b_is_integer
def b_are_parts : Sx := (sRet (xAnd (x1 (gInst "tuple") (xV 0)) (x2 gEq (x1 gLen (xV 0)) (xV 1))))
def m_are_parts : Fn := fnOf 2 2 b_are_parts
def b_beside : Sx := (sSeq (sUnp (tT (tsCons (tN 3) (tsCons (tN 4) (tsCons (tN 5) tsNil)))) (xV 2)) (sSeq (sSet 6 (xLst xNil)) (sSeq (sIf (xAnd (x2 gEq (xV 4) (xC (.int 1))) (x2 gIsNot (x2 gIx (xV 0) (xV 3)) (xC .non))) (sMut 6 gApp (xTup (xCons (x2 gIx (xV 0) (xV 3)) (xCons (xC (.int 0)) (xCons (xV 5) xNil))))) sNil) (sSeq (sIf (xAnd (x2 gEq (xV 4) (xC (.int 0))) (x2 (gInA true) (xV 3) (xV 0))) (sMut 6 gApp (xTup (xCons (x2 gIdx (xV 0) (xV 3)) (xCons (xC (.int 1)) (xCons (xV 5) xNil))))) sNil) (sSeq (sIf (xAnd (x2 gEq (xV 5) (xC (.int 1))) (x2 gIsNot (x2 gIx (xV 1) (xV 3)) (xC .non))) (sMut 6 gApp (xTup (xCons (x2 gIx (xV 1) (xV 3)) (xCons (xV 4) (xCons (xC (.int 0)) xNil))))) sNil) (sSeq (sIf (xAnd (x2 gEq (xV 5) (xC (.int 0))) (x2 (gInA true) (xV 3) (xV 1))) (sMut 6 gApp (xTup (xCons (x2 gIdx (xV 1) (xV 3)) (xCons (xV 4) (xCons (xC (.int 1)) xNil))))) sNil) (sRet (xV 6))))))))
def m_beside : Fn := fnOf 7 3 b_beside
-- _law_bag: by hand
def b_law_take : Sx := (sSeq (sIf (x2 gEq (xBag 0 .k0) (xC (.int 0))) (sSeq (sSet 2 (x2 gIx (x2 gAdd (xSl gSl (xCells 0) (xPs (xBag 0 .k2)) xPn) (xLst (xCons (xC (.int 0)) xNil))) (xC (.int 0)))) (sSeq (sBagAug 0 .k2 (xC (.int 1))) (sSeq (sIf (x2 gGe (xV 2) (x2 gPow (xC (.int 10)) (xC (.int 18)))) (sBag 0 .k0 (xV 2)) sNil) (sSeq (sSet 3 (x2 gAdd (x2 gAdd (x2 gMul (xBag 0 .k1) (xC (.int 48271))) (x2 gMod (x1 gInt (xV 2)) (xC (.int 2147483647)))) (x2 gMul (xC (.int 7919)) (xBag 0 .k2)))) (sBag 0 .k1 (x2 gMod (x1 gInt (xV 3)) (xC (.int 2147483647)))))))) sNil) (sSeq (sIf (x2 gGt (xBag 0 .k0) (xC (.int 0))) (sSeq (sSet 4 (x2 gMod (x1 gInt (xBag 0 .k0)) (xV 1))) (sSeq (sBag 0 .k0 (x2 gDiv (x1 gInt (xBag 0 .k0)) (xV 1))) (sRet (xV 4)))) sNil) (sSeq (sSet 5 (x2 gMod (x1 gInt (x2 gMul (x2 gAdd (xBag 0 .k1) (xC (.int 1))) (xC (.int 39373)))) (xC (.int 1000000007)))) (sSeq (sSet 6 (x2 gMod (x1 gInt (x2 gMul (x2 gMod (x1 gInt (x2 gMul (xV 5) (xV 5))) (xC (.int 998244353))) (xC (.int 30011)))) (xC (.int 998244353)))) (sRet (x2 gMod (x1 gInt (x2 gDiv (xV 6) (xC (.int 7)))) (xV 1)))))))
def m_law_take : Fn := fnOf 7 2 b_law_take
def b_law_alike : Sx := (sRet (xAnd (x2 gEq (xV 0) (xV 1)) (x2 gEq (x1 gReprK (xV 0)) (x1 gReprK (xV 1)))))
def m_law_alike : Fn := fnOf 2 2 b_law_alike
def b_law_is_int : Sx := (sRet (xAnd (x1 (gInst "int") (xV 0)) (xNot (x1 (gInst "bool") (xV 0)))))
def m_law_is_int : Fn := fnOf 1 1 b_law_is_int
def b_law_edges_of : Sx := (sSeq (sSet 2 (x1 gLR1 (x1 gLen (xV 0)))) (sSeq (sSet 3 (x2 gAdd (xLC [4] (tN 4) (xIt (xV 2)) (x2 (gInA false) (xV 4) (xV 1)) (xTup (xCons (xC (.str "down")) (xCons (xV 4) xNil)))) (xLC [4] (tN 4) (xIt (xV 2)) (x2 (gInA false) (xV 4) (xV 0)) (xTup (xCons (xC (.str "left")) (xCons (xV 4) xNil)))))) (sRet (x2 gAdd (x2 gAdd (xV 3) (xLC [4] (tN 4) (xIt (xV 2)) xYes (xTup (xCons (xC (.str "right")) (xCons (xV 4) xNil))))) (xLC [4] (tN 4) (xIt (xV 2)) xYes (xTup (xCons (xC (.str "up")) (xCons (xV 4) xNil))))))))
def m_law_edges_of : Fn := fnOf 5 2 b_law_edges_of
def b_law_corners : Sx := (sSeq (sSet 1 (xLst xNil)) (sSeq (sFor (tN 2) (xRng1 (x2 gIx (xV 0) (xC (.int 0)))) (sMut 1 gExt (xLst (xCons (xTup (xCons (xV 2) (xCons (xC (.int 0)) (xCons (xC (.int 0)) xNil)))) (xCons (xTup (xCons (xV 2) (xCons (xC (.int 0)) (xCons (xC (.int 1)) xNil)))) (xCons (xTup (xCons (xV 2) (xCons (xC (.int 1)) (xCons (xC (.int 0)) xNil)))) (xCons (xTup (xCons (xV 2) (xCons (xC (.int 1)) (xCons (xC (.int 1)) xNil)))) xNil))))))) (sRet (xV 1))))
def m_law_corners : Fn := fnOf 3 1 b_law_corners
def b_law_beside : Sx := (sSeq (sUnp (tT (tsCons (tN 2) (tsCons (tN 3) (tsCons (tN 4) tsNil)))) (xV 1)) (sSeq (sPar [5, 6] (xCons (x2 gIx (x2 gIx (xV 0) (xC (.int 2))) (xV 2)) (xCons (x2 gIx (x2 gIx (xV 0) (xC (.int 3))) (xV 2)) xNil))) (sSeq (sSet 7 (xLst xNil)) (sSeq (sIf (xAnd (x2 gEq (xV 3) (xC (.int 1))) (x2 gIsNot (xV 5) (xC .non))) (sMut 7 gApp (xTup (xCons (xV 5) (xCons (xC (.int 0)) (xCons (xV 4) xNil))))) sNil) (sSeq (sIf (xAnd (x2 gEq (xV 3) (xC (.int 0))) (x2 (gInA true) (xV 2) (x2 gIx (xV 0) (xC (.int 2))))) (sMut 7 gApp (xTup (xCons (x2 gIdx (x2 gIx (xV 0) (xC (.int 2))) (xV 2)) (xCons (xC (.int 1)) (xCons (xV 4) xNil))))) sNil) (sSeq (sIf (xAnd (x2 gEq (xV 4) (xC (.int 1))) (x2 gIsNot (xV 6) (xC .non))) (sMut 7 gApp (xTup (xCons (xV 6) (xCons (xV 3) (xCons (xC (.int 0)) xNil))))) sNil) (sSeq (sIf (xAnd (x2 gEq (xV 4) (xC (.int 0))) (x2 (gInA true) (xV 2) (x2 gIx (xV 0) (xC (.int 3))))) (sMut 7 gApp (xTup (xCons (x2 gIdx (x2 gIx (xV 0) (xC (.int 3))) (xV 2)) (xCons (xV 3) (xCons (xC (.int 1)) xNil))))) sNil) (sRet (xV 7)))))))))
def m_law_beside : Fn := fnOf 8 2 b_law_beside
def b_law_is_one_of : Sx := (sRet (xAnd (x1 (gInst "tuple") (xV 0)) (x2 (gInA true) (x1 gReprK (xV 0)) (xLC [2] (tN 2) (xIt (xV 1)) xYes (x1 gReprK (xV 2))))))
def m_law_is_one_of : Fn := fnOf 3 2 b_law_is_one_of
def b_is_below : Sx := (sRet (xAnd (xCall m_is_integer (xCons (xV 0) xNil)) (xChain gLe gLt (xC (.int 0)) (xV 0) (xV 1))))
def m_is_below : Fn := fnOf 2 2 b_is_below
def b_corners_at : Sx := (sSeq (sPar [3, 4] (xCons (xLst (xCons (xV 2) xNil)) (xCons (xC (.int 0)) xNil))) (sSeq (whileGo (x2 gLt (xV 4) (x1 gLen (xV 3))) (sSeq (sMut 3 gExt (xLC [5] (tN 5) (xIt (xCall m_beside (xCons (xV 0) (xCons (xV 1) (xCons (x2 gIx (xV 3) (xV 4)) xNil))))) (x2 (gInA false) (xV 5) (xV 3)) (xV 5))) (sAug 4 (gInt2 fun i j => i + j) (xC (.int 1)))) fuel) (sRet (x1 gTupN (x1 gSortD (xV 3))))))
def m_corners_at : Fn := fnOf 6 3 b_corners_at
def b_law_some : Sx := (sRet (x2 gIx (xV 1) (xCall m_law_take (xCons (xV 0) (xCons (x1 gLen (xV 1)) xNil)))))
def m_law_some : Fn := fnOf 2 2 b_law_some
def b_law_mixed : Sx := (sSeq (sSet 2 (xLst xNil)) (sSeq (sFor (tN 3) (xIt (xV 1)) (sIns 2 (xCall m_law_take (xCons (xV 0) (xCons (x2 gAdd (x1 gLen (xV 2)) (xC (.int 1))) xNil))) (xV 3))) (sRet (xV 2))))
def m_law_mixed : Fn := fnOf 4 2 b_law_mixed
def bF_law_mixed : Sx := (sSeq (sSet 2 (xLst xNil)) (sSeq (sFor (tN 3) (xIt (xV 1)) (sIns 2 (xCall m_law_take (xCons (xV 0) (xCons (x2 gAdd (x1 gLen (xV 2)) (xC (.int 1))) xNil))) (xV 3))) sNil))
def mF_law_mixed : Fn := fnOfF 4 2 2 bF_law_mixed
def b_law_edges : Sx := (sRet (xCall m_law_edges_of (xCons (x2 gIx (xV 0) (xC (.int 2))) (xCons (x2 gIx (xV 0) (xC (.int 3))) xNil))))
def m_law_edges : Fn := fnOf 1 1 b_law_edges
def b_law_point_of : Sx := (sSeq (sPar [2, 3] (xCons (xLst (xCons (xV 1) xNil)) (xCons (xC (.int 0)) xNil))) (sSeq (whileGo (x2 gLt (xV 3) (x1 gLen (xV 2))) (sSeq (sMut 2 gExt (xLC [4] (tN 4) (xIt (x1 gSortSetN (xCall m_law_beside (xCons (xV 0) (xCons (x2 gIx (xV 2) (xV 3)) xNil))))) (x2 (gInA false) (xV 4) (xV 2)) (xV 4))) (sAug 3 (gInt2 fun i j => i + j) (xC (.int 1)))) fuel) (sRet (x1 gTupN (x1 gSortD (xV 2))))))
def m_law_point_of : Fn := fnOf 5 2 b_law_point_of
def b_law_labels : Sx := (sSeq (sSet 1 (xLst xNil)) (sSeq (sFor (tN 2) (xIt (xCall m_law_corners (xCons (xV 0) xNil))) (sMut 1 gExt (xLC [3] (tN 3) (xRng1 (x2 gIx (xV 0) (xC (.int 1)))) xYes (x2 gAdd (xV 2) (xTup (xCons (xV 3) xNil)))))) (sRet (xV 1))))
def m_law_labels : Fn := fnOf 4 1 b_law_labels
def b_is_edge_of : Sx := (sSeq (sIf (xOr (xNot (xCall m_are_parts (xCons (xV 2) (xCons (xC (.int 2)) xNil)))) (xOr (xNot (x1 (gInst "str") (x2 gIx (xV 2) (xC (.int 0))))) (x2 (gInA false) (x2 gIx (xV 2) (xC (.int 0))) (xC (.tup [.str "right", .str "up", .str "left", .str "down"]))))) (sRet (xC (.bl false))) sNil) (sSeq (sIf (xNot (xCall m_is_below (xCons (x2 gIx (xV 2) (xC (.int 1))) (xCons (x1 gLen (xV 0)) xNil)))) (sRet (xC (.bl false))) sNil) (sSeq (sUnp (tT (tsCons (tN 3) (tsCons (tN 4) tsNil))) (xV 2)) (sRet (xOr (x2 (gInA true) (xV 3) (xTup (xCons (xC (.str "right")) (xCons (xC (.str "up")) xNil)))) (x2 (gInA false) (xV 4) (xIf (x2 gEq (xV 3) (xC (.str "left"))) (xV 0) (xV 1))))))))
def m_is_edge_of : Fn := fnOf 5 3 b_is_edge_of
def b_is_corner_of : Sx := (sRet (xAnd (xCall m_are_parts (xCons (xV 1) (xCons (xC (.int 3)) xNil))) (xAnd (xCall m_is_below (xCons (x2 gIx (xV 1) (xC (.int 0))) (xCons (xV 0) xNil))) (xAnd (xCall m_is_below (xCons (x2 gIx (xV 1) (xC (.int 1))) (xCons (xC (.int 2)) xNil))) (xCall m_is_below (xCons (x2 gIx (xV 1) (xC (.int 2))) (xCons (xC (.int 2)) xNil)))))))
def m_is_corner_of : Fn := fnOf 2 2 b_is_corner_of
def b_law_gated : Sx := (sSeq (sSet 2 (xCall mF_law_mixed (xCons (xV 0) (xCons (xLC [4] (tN 4) (xRng1 (x1 gLen (xV 1))) (x2 (gInA false) (xV 4) (xV 1)) (xV 4)) xNil)))) (sSeq (sSet 3 (x1 gList (xV 1))) (sSeq (sFor (tN 4) (xRng1 (x1 gLen (xV 1))) (sIf (xAnd (x2 gIs (x2 gIx (xV 3) (xV 4)) (xC .non)) (xAnd (x2 gNe (xV 2) (xLst xNil)) (x2 gGt (xCall m_law_take (xCons (xV 0) (xCons (xC (.int 3)) xNil))) (xC (.int 0))))) (sSetPop 3 2 (xV 4)) sNil)) (sRet (xV 3)))))
def m_law_gated : Fn := fnOf 5 2 b_law_gated
def b_law_permutation : Sx := (sSeq (sSet 3 (x2 gAdd (xC (.int 1)) (xCall m_law_take (xCons (xV 0) (xCons (x2 gSub (xV 1) (xC (.int 1))) xNil))))) (sSeq (sSet 4 (xLC [6] (tN 6) (xRng1 (xV 1)) xYes (xIf (x2 gLt (x2 gAdd (xV 6) (xV 3)) (xV 1)) (x2 gAdd (xV 6) (xV 3)) (x2 gSub (x2 gAdd (xV 6) (xV 3)) (xV 1))))) (sSeq (sSet 5 (xCall m_law_mixed (xCons (xV 0) (xCons (x1 gLR1 (xV 1)) xNil)))) (sRet (x1 gTupN (xIf (xOr (xV 2) (x2 gEq (xV 5) (x1 gLR1 (xV 1)))) (xV 4) (xV 5)))))))
def m_law_permutation : Fn := fnOf 7 3 b_law_permutation
def b_law_name : Sx := (sRet (xCall m_law_some (xCons (xV 0) (xCons (xLst (xCons (xC (.str "a")) (xCons (xC (.str "b")) (xCons (xC (.str "top")) (xCons (xC (.str "red")) (xCons (xC (.str "side")) (xCons (xC (.str "zz")) (xCons (xC (.str "cushion")) (xCons (xC (.str "abcdefghijkl")) xNil))))))))) xNil))))
def m_law_name : Fn := fnOf 1 1 b_law_name
def b_law_points : Sx := (sRet (x1 gSortSetN (xLC [1] (tN 1) (xIt (xCall m_law_corners (xCons (xV 0) xNil))) xYes (xCall m_law_point_of (xCons (xV 0) (xCons (xV 1) xNil))))))
def m_law_points : Fn := fnOf 2 1 b_law_points
def b_law_odd : Sx := (sSeq (sSet 1 (xLst (xCons (xC .non) (xCons (xC (.bl true)) (xCons (xC (.bl false)) (xCons (xC (.int 0)) (xCons (xC (.int 1)) (xCons (x1 gNeg (xC (.int 1))) (xCons (x2 gPow (xC (.int 10)) (xC (.int 39))) (xCons (xC (.str "")) (xCons (xC (.str "a")) (xCons (xC (.str "l")) (xCons (xC (.str "falls")) (xCons (xTupN xNil) (xCons (xLst xNil) (xCons (xC (.dK [])) (xCons (xTup (xCons (xC (.int 0)) xNil)) (xCons (xTup (xCons (xC (.int 0)) (xCons (xC (.int 1)) xNil))) (xCons (xTup (xCons (xC (.int 1)) (xCons (xC (.int 0)) xNil))) (xCons (xLst (xCons (xC (.int 0)) (xCons (xC (.int 1)) xNil))) (xCons (xDisp [((xC (.str "a")), (xC (.int 1)))]) xNil))))))))))))))))))))) (sRet (xCall m_law_some (xCons (xV 0) (xCons (x2 gAdd (xV 1) (xLst (xCons (xTup (xCons (xC (.str "right")) (xCons (xC (.int 0)) xNil))) (xCons (xTup (xCons (xC (.str "falls")) (xCons (xC (.str "")) (xCons (xC (.int 0)) (xCons (xC (.int 1)) xNil))))) (xCons (xTup (xCons (xC (.str "round")) (xCons (xC (.int 1)) xNil))) (xCons (xTup (xCons (xC (.int 0)) (xCons (xC (.int 0)) (xCons (xC (.int 0)) xNil)))) (xCons (xTup (xCons (xC (.int 0)) (xCons (xC (.int 0)) (xCons (xC (.int 0)) (xCons (xC (.int 0)) xNil))))) (xCons (xC (.str "lrx")) (xCons (xTup (xCons (xTup (xCons (xC (.int 1)) (xCons (xC (.int 0)) xNil))) (xCons (xTup (xCons (xC (.int 0)) (xCons (xC (.int 1)) xNil))) xNil))) xNil))))))))) xNil)))))
def m_law_odd : Fn := fnOf 2 1 b_law_odd
def b_is_edge : Sx := (sRet (xCall m_is_edge_of (xCons (x2 gIx (xV 0) (xC (.int 2))) (xCons (x2 gIx (xV 0) (xC (.int 3))) (xCons (xV 1) xNil)))))
def m_is_edge : Fn := fnOf 2 2 b_is_edge
def b_is_corner : Sx := (sRet (xCall m_is_corner_of (xCons (x2 gIx (xV 0) (xC (.int 0))) (xCons (xV 1) xNil))))
def m_is_corner : Fn := fnOf 2 2 b_is_corner
def b_is_label : Sx := (sRet (xAnd (xCall m_are_parts (xCons (xV 1) (xCons (xC (.int 4)) xNil))) (xAnd (xCall m_is_corner_of (xCons (x2 gIx (xV 0) (xC (.int 0))) (xCons (xSl gSl (xV 1) xPn (xPs (xC (.int 3)))) xNil))) (xCall m_is_below (xCons (x2 gIx (xV 1) (xC (.int 3))) (xCons (x2 gIx (xV 0) (xC (.int 1))) xNil))))))
def m_is_label : Fn := fnOf 2 2 b_is_label
def b_law_joins : Sx := (sSeq (sPar [2, 3] (xCons (xCall m_law_take (xCons (xV 0) (xCons (xC (.int 4)) xNil))) (xCons (xLst (xCons (xTup (xCons (xC (.int 0)) (xCons (xC (.int 0)) xNil))) xNil)) xNil))) (sSeq (sFor (tN 4) (xRng2 (xC (.int 1)) (xV 1)) (sSeq (sSet 5 (xLst xNil)) (sSeq (sFor (tT (tsCons (tN 6) (tsCons (tN 7) tsNil))) (xIt (xV 3)) (sMut 5 gExt (xLC [10] (tN 10) (xIt (xTup (xCons (xTup (xCons (x2 gAdd (xV 6) (xC (.int 1))) (xCons (xV 7) xNil))) (xCons (xTup (xCons (x2 gSub (xV 6) (xC (.int 1))) (xCons (xV 7) xNil))) (xCons (xTup (xCons (xV 6) (xCons (x2 gAdd (xV 7) (xC (.int 1))) xNil))) (xCons (xTup (xCons (xV 6) (xCons (x2 gSub (xV 7) (xC (.int 1))) xNil))) xNil)))))) (x2 (gInA false) (xV 10) (xV 3)) (xV 10)))) (sMut 3 gApp (xCall m_law_some (xCons (xV 0) (xCons (xV 5) xNil))))))) (sSeq (sSet 3 (xCall m_law_mixed (xCons (xV 0) (xCons (xV 3) xNil)))) (sSeq (sPar [8, 9] (xCons (x2 gRep (xLst (xCons (xC .non) xNil)) (xV 1)) (xCons (x2 gRep (xLst (xCons (xC .non) xNil)) (xV 1)) xNil))) (sSeq (sFor (tT (tsCons (tN 4) (tsCons (tT (tsCons (tN 6) (tsCons (tN 7) tsNil))) tsNil))) (xEnum (xV 3)) (sSeq (sIf (xAnd (x2 gLt (xV 2) (xC (.int 3))) (xAnd (x2 (gInA true) (xTup (xCons (x2 gAdd (xV 6) (xC (.int 1))) (xCons (xV 7) xNil))) (xV 3)) (x2 gGt (xCall m_law_take (xCons (xV 0) (xCons (xC (.int 5)) xNil))) (xC (.int 0))))) (sSetI 8 (xV 4) (x2 gIdx (xV 3) (xTup (xCons (x2 gAdd (xV 6) (xC (.int 1))) (xCons (xV 7) xNil))))) sNil) (sIf (xAnd (x2 gLt (xV 2) (xC (.int 3))) (xAnd (x2 (gInA true) (xTup (xCons (xV 6) (xCons (x2 gAdd (xV 7) (xC (.int 1))) xNil))) (xV 3)) (x2 gGt (xCall m_law_take (xCons (xV 0) (xCons (xC (.int 5)) xNil))) (xC (.int 0))))) (sSetI 9 (xV 4) (x2 gIdx (xV 3) (xTup (xCons (xV 6) (xCons (x2 gAdd (xV 7) (xC (.int 1))) xNil))))) sNil))) (sSeq (sIf (x2 gGt (xV 2) (xC (.int 0))) (sPar [8, 9] (xCons (xCall m_law_gated (xCons (xV 0) (xCons (xV 8) xNil))) (xCons (xCall m_law_gated (xCons (xV 0) (xCons (xV 9) xNil))) xNil))) sNil) (sRet (xTup (xCons (x1 gTupN (xV 8)) (xCons (x1 gTupN (xV 9)) xNil))))))))))
def m_law_joins : Fn := fnOf 11 2 b_law_joins
def b_law_dials : Sx := (sSeq (sIf (x2 gEq (xV 2) (xC (.int 1))) (sRet (xTupN xNil)) sNil) (sSeq (sPar [3, 4] (xCons (x2 gEq (xCall m_law_take (xCons (xV 0) (xCons (xC (.int 2)) xNil))) (xC (.int 0))) (xCons (xLst xNil) xNil))) (sSeq (sFor (tN 5) (xIt (xSl gSl (xCall m_law_mixed (xCons (xV 0) (xCons (xV 1) xNil))) xPn (xPs (xCall m_law_some (xCons (xV 0) (xCons (xLst (xCons (xC (.int 1)) (xCons (xC (.int 2)) (xCons (xC (.int 0)) (xCons (xC (.int 4)) (xCons (x1 gLen (xV 1)) xNil)))))) xNil)))))) (sMut 4 gApp (xTup (xCons (xV 5) (xCons (xCall m_law_permutation (xCons (xV 0) (xCons (xV 2) (xCons (xV 3) xNil)))) xNil))))) (sRet (x1 gTupN (x1 gSortD (xV 4)))))))
def m_law_dials : Fn := fnOf 6 3 b_law_dials
def b_law_table : Sx := (sSeq (sPar [2, 3] (xCons (x2 gAdd (xC (.int 1)) (xCall m_law_take (xCons (xV 0) (xCons (xV 1) xNil)))) (xCons (xCall m_law_some (xCons (xV 0) (xCons (xLst (xCons (xC (.int 1)) (xCons (xC (.int 1)) (xCons (xC (.int 2)) (xCons (xC (.int 1)) (xCons (xC (.int 3)) (xCons (xC (.int 2)) (xCons (xC (.int 4)) xNil)))))))) xNil))) xNil))) (sSeq (sUnp (tT (tsCons (tN 4) (tsCons (tN 5) tsNil))) (xCall m_law_joins (xCons (xV 0) (xCons (xV 2) xNil)))) (sSeq (sSet 6 (xTup (xCons (xV 2) (xCons (xV 3) (xCons (xV 4) (xCons (xV 5) (xCons (xCall m_law_dials (xCons (xV 0) (xCons (xCall m_law_edges_of (xCons (xV 4) (xCons (xV 5) xNil))) (xCons (xV 3) xNil)))) (xCons (xTupN xNil) xNil)))))))) (sSeq (sSet 7 (xCall m_law_points (xCons (xV 6) xNil))) (sSeq (sSet 8 (xSl gSl (xCall m_law_mixed (xCons (xV 0) (xCons (xV 7) xNil))) xPn (xPs (xCall m_law_some (xCons (xV 0) (xCons (xLst (xCons (xC (.int 1)) (xCons (xC (.int 2)) (xCons (xC (.int 0)) (xCons (xC (.int 3)) (xCons (x1 gLen (xV 7)) xNil)))))) xNil)))))) (sRet (x2 gAdd (xSl gSl (xV 6) xPn (xPs (xC (.int 5)))) (xTup (xCons (x1 gTupN (x1 gSortD (xLC [9] (tN 9) (xIt (xV 8)) xYes (xTup (xCons (x2 gIx (xV 9) (xC (.int 0))) (xCons (xCall m_law_name (xCons (xV 0) xNil)) xNil)))))) xNil)))))))))
def m_law_table : Fn := fnOf 10 2 b_law_table
def b_law_bent_0 : Sx := (sSeq (sIf (xAnd (x1 (gInst "str") (xV 1)) (x2 gGt (xCall m_law_take (xCons (xV 0) (xCons (xC (.int 3)) xNil))) (xC (.int 0)))) (sRet (xCall m_law_some (xCons (xV 0) (xCons (xLst (xCons (x2 gAdd (xV 1) (xC (.str "a"))) (xCons (xSl gSl (xV 1) (xPs (xC (.int 1))) xPn) (xCons (x2 gAdd (xV 1) (xC (.str " "))) (xCons (x2 gAdd (xV 1) (xC (.str "1"))) (xCons (x1 gUpper (xV 1)) (xCons (x2 gMul (xV 1) (xC (.int 9))) (xCons (xC (.str "left")) (xCons (xC (.str "down")) (xCons (xC (.str "")) (xCons (xC (.str "A")) xNil))))))))))) xNil)))) sNil) (sSeq (sIf (xAnd (xCall m_law_is_int (xCons (xV 1) xNil)) (x2 gGt (xCall m_law_take (xCons (xV 0) (xCons (xC (.int 4)) xNil))) (xC (.int 0)))) (sRet (xCall m_law_some (xCons (xV 0) (xCons (xLst (xCons (x2 gAdd (xV 1) (xC (.int 1))) (xCons (x2 gSub (xV 1) (xC (.int 1))) (xCons (x1 gNeg (xV 1)) (xCons (xC .non) (xCons (x2 gEq (xV 1) (xC (.int 1))) (xCons (x1 gStrI (xV 1)) (xCons (xC (.int 0)) (xCons (x2 gMul (xC (.int 2)) (xV 1)) xNil))))))))) xNil)))) sNil) (sSeq (sIf (xOr (xNot (x1 (gInst "tuple") (xV 1))) (xOr (x2 gEq (xV 1) (xTupN xNil)) (x2 gEq (xV 2) (xC (.int 0))))) (sRet (xCall m_law_odd (xCons (xV 0) xNil))) sNil) (sSeq (sPar [3, 4] (xCons (xCall m_law_take (xCons (xV 0) (xCons (xC (.int 14)) xNil))) (xCons (xCall m_law_take (xCons (xV 0) (xCons (x1 gLen (xV 1)) xNil))) xNil))) (sSeq (sIf (x2 gEq (xV 3) (xC (.int 0))) (sRet (x1 gList (xV 1))) sNil) (sSeq (sIf (x2 gEq (xV 3) (xC (.int 1))) (sRet (x2 gAdd (xSl gSl (xV 1) xPn (xPs (xV 4))) (xSl gSl (xV 1) (xPs (x2 gAdd (xV 4) (xC (.int 1)))) xPn))) sNil) (sSeq (sIf (x2 gEq (xV 3) (xC (.int 2))) (sRet (x2 gAdd (x2 gAdd (xSl gSl (xV 1) xPn (xPs (xV 4))) (xTup (xCons (xCall m_law_odd (xCons (xV 0) xNil)) xNil))) (xSl gSl (xV 1) (xPs (xV 4)) xPn))) sNil) (sSeq (sIf (x2 gEq (xV 3) (xC (.int 3))) (sRet (x1 gRev2 (xV 1))) sNil) (sSeq (sIf (x2 gEq (xV 3) (xC (.int 4))) (sRet (x2 gAdd (x2 gAdd (xSl gSl (xV 1) xPn (xPs (xV 4))) (xSl gSl (xV 1) (xPs (xV 4)) (xPs (x2 gAdd (xV 4) (xC (.int 1)))))) (xSl gSl (xV 1) (xPs (xV 4)) xPn))) sNil) (sRet (x2 gAdd (x2 gAdd (xSl gSl (xV 1) xPn (xPs (xV 4))) (xTup (xCons (xCall (fun _ _ => none) (xCons (xV 0) (xCons (x2 gIx (xV 1) (xV 4)) (xCons (x2 gSub (xV 2) (xC (.int 1))) xNil)))) xNil))) (xSl gSl (xV 1) (xPs (x2 gAdd (xV 4) (xC (.int 1)))) xPn))))))))))))
def m_law_bent_0 : Fn := fnOf 5 3 b_law_bent_0
def b_law_bent_1 : Sx := (sSeq (sIf (xAnd (x1 (gInst "str") (xV 1)) (x2 gGt (xCall m_law_take (xCons (xV 0) (xCons (xC (.int 3)) xNil))) (xC (.int 0)))) (sRet (xCall m_law_some (xCons (xV 0) (xCons (xLst (xCons (x2 gAdd (xV 1) (xC (.str "a"))) (xCons (xSl gSl (xV 1) (xPs (xC (.int 1))) xPn) (xCons (x2 gAdd (xV 1) (xC (.str " "))) (xCons (x2 gAdd (xV 1) (xC (.str "1"))) (xCons (x1 gUpper (xV 1)) (xCons (x2 gMul (xV 1) (xC (.int 9))) (xCons (xC (.str "left")) (xCons (xC (.str "down")) (xCons (xC (.str "")) (xCons (xC (.str "A")) xNil))))))))))) xNil)))) sNil) (sSeq (sIf (xAnd (xCall m_law_is_int (xCons (xV 1) xNil)) (x2 gGt (xCall m_law_take (xCons (xV 0) (xCons (xC (.int 4)) xNil))) (xC (.int 0)))) (sRet (xCall m_law_some (xCons (xV 0) (xCons (xLst (xCons (x2 gAdd (xV 1) (xC (.int 1))) (xCons (x2 gSub (xV 1) (xC (.int 1))) (xCons (x1 gNeg (xV 1)) (xCons (xC .non) (xCons (x2 gEq (xV 1) (xC (.int 1))) (xCons (x1 gStrI (xV 1)) (xCons (xC (.int 0)) (xCons (x2 gMul (xC (.int 2)) (xV 1)) xNil))))))))) xNil)))) sNil) (sSeq (sIf (xOr (xNot (x1 (gInst "tuple") (xV 1))) (xOr (x2 gEq (xV 1) (xTupN xNil)) (x2 gEq (xV 2) (xC (.int 0))))) (sRet (xCall m_law_odd (xCons (xV 0) xNil))) sNil) (sSeq (sPar [3, 4] (xCons (xCall m_law_take (xCons (xV 0) (xCons (xC (.int 14)) xNil))) (xCons (xCall m_law_take (xCons (xV 0) (xCons (x1 gLen (xV 1)) xNil))) xNil))) (sSeq (sIf (x2 gEq (xV 3) (xC (.int 0))) (sRet (x1 gList (xV 1))) sNil) (sSeq (sIf (x2 gEq (xV 3) (xC (.int 1))) (sRet (x2 gAdd (xSl gSl (xV 1) xPn (xPs (xV 4))) (xSl gSl (xV 1) (xPs (x2 gAdd (xV 4) (xC (.int 1)))) xPn))) sNil) (sSeq (sIf (x2 gEq (xV 3) (xC (.int 2))) (sRet (x2 gAdd (x2 gAdd (xSl gSl (xV 1) xPn (xPs (xV 4))) (xTup (xCons (xCall m_law_odd (xCons (xV 0) xNil)) xNil))) (xSl gSl (xV 1) (xPs (xV 4)) xPn))) sNil) (sSeq (sIf (x2 gEq (xV 3) (xC (.int 3))) (sRet (x1 gRev2 (xV 1))) sNil) (sSeq (sIf (x2 gEq (xV 3) (xC (.int 4))) (sRet (x2 gAdd (x2 gAdd (xSl gSl (xV 1) xPn (xPs (xV 4))) (xSl gSl (xV 1) (xPs (xV 4)) (xPs (x2 gAdd (xV 4) (xC (.int 1)))))) (xSl gSl (xV 1) (xPs (xV 4)) xPn))) sNil) (sRet (x2 gAdd (x2 gAdd (xSl gSl (xV 1) xPn (xPs (xV 4))) (xTup (xCons (xCall m_law_bent_0 (xCons (xV 0) (xCons (x2 gIx (xV 1) (xV 4)) (xCons (x2 gSub (xV 2) (xC (.int 1))) xNil)))) xNil))) (xSl gSl (xV 1) (xPs (x2 gAdd (xV 4) (xC (.int 1)))) xPn))))))))))))
def m_law_bent_1 : Fn := fnOf 5 3 b_law_bent_1
abbrev b_law_bent : Sx := b_law_bent_1
abbrev m_law_bent : Fn := m_law_bent_1
def b_law : Sx := (sSeq (sFor (tN 2) (xRng1 (xC (.int 3))) (sSeq (sSet 3 (xCall m_law_table (xCons (xV 1) (xCons (xC (.int 5)) xNil)))) (sSeq (sPar [4, 5, 6, 7] (xCons (x1 gReprK (xV 3)) (xCons (xCall m_law_edges (xCons (xV 3) xNil)) (xCons (xCall m_law_corners (xCons (xV 3) xNil)) (xCons (xCall m_law_labels (xCons (xV 3) xNil)) xNil))))) (sSeq (sPar [8, 9] (xCons (x2 gIx (xV 3) (xC (.int 0))) (xCons (x2 gIx (xV 3) (xC (.int 1))) xNil))) (sSeq (sSet 10 (x2 gAdd (x2 gAdd (xSl gSl (xCall m_law_mixed (xCons (xV 1) (xCons (xV 5) xNil))) xPn (xPs (xC (.int 3)))) (xSl gSl (xCall m_law_mixed (xCons (xV 1) (xCons (xV 6) xNil))) xPn (xPs (xC (.int 3))))) (xSl gSl (xCall m_law_mixed (xCons (xV 1) (xCons (xV 7) xNil))) xPn (xPs (xC (.int 3)))))) (sSeq (sSet 10 (x2 gAdd (xV 10) (xLC [14] (tN 14) (xIt (xTup (xCons (xC (.str "left")) (xCons (xC (.str "down")) (xCons (xC (.str "right")) (xCons (xC (.str "up")) (xCons (xC (.str "Up")) xNil))))))) xYes (xTup (xCons (xV 14) (xCons (xCall m_law_take (xCons (xV 1) (xCons (x2 gAdd (xV 8) (xC (.int 1))) xNil))) xNil)))))) (sSeq (sSet 10 (x2 gAdd (xV 10) (xLst (xCons (xTup (xCons (xV 8) (xCons (xC (.int 0)) (xCons (xC (.int 0)) xNil)))) (xCons (xTup (xCons (xC (.int 0)) (xCons (xC (.int 2)) (xCons (xC (.int 0)) xNil)))) (xCons (xTup (xCons (xC (.int 0)) (xCons (xC (.int 0)) (xCons (xC (.int 0)) (xCons (xV 9) xNil))))) (xCons (xTup (xCons (xC (.int 0)) (xCons (xC (.bl true)) (xCons (xC (.int 0)) (xCons (xC (.int 0)) xNil))))) (xCons (xTup (xCons (xC (.bl false)) (xCons (xC (.int 0)) (xCons (xC (.int 0)) xNil)))) (xCons (xTup (xCons (xC (.int 0)) (xCons (xC (.int 1)) (xCons (x1 gNeg (xC (.int 1))) xNil)))) (xCons (xLst (xCons (xC (.str "up")) (xCons (xC (.int 0)) xNil))) (xCons (xTup (xCons (xC (.str "up")) (xCons (xC (.bl true)) xNil))) xNil))))))))))) (sSeq (sFor (tN 11) (xIt (x2 gAdd (x2 gAdd (xV 10) (xLst (xCons (xCall m_law_odd (xCons (xV 1) xNil)) xNil))) (xLC [15] (tN 15) (xRng1 (xC (.int 6))) xYes (xCall m_law_bent (xCons (xV 1) (xCons (xCall m_law_some (xCons (xV 1) (xCons (xV 10) xNil))) (xCons (xC (.int 1)) xNil))))))) (sSeq (sSet 12 (xLst (xCons (xCall m_law_is_one_of (xCons (xV 11) (xCons (xV 5) xNil))) (xCons (xCall m_law_is_one_of (xCons (xV 11) (xCons (xV 6) xNil))) (xCons (xCall m_law_is_one_of (xCons (xV 11) (xCons (xV 7) xNil))) xNil))))) (sIf (xNot (xCall m_law_alike (xCons (xLst (xCons (xCall m_is_edge (xCons (xV 3) (xCons (xV 11) xNil))) (xCons (xCall m_is_corner (xCons (xV 3) (xCons (xV 11) xNil))) (xCons (xCall m_is_label (xCons (xV 3) (xCons (xV 11) xNil))) xNil)))) (xCons (xV 12) xNil)))) (sRet (xC (.bl false))) sNil))) (sSeq (sFor (tN 13) (xIt (xSl gSl (xCall m_law_mixed (xCons (xV 1) (xCons (xV 6) xNil))) xPn (xPs (xC (.int 8))))) (sIf (xNot (xCall m_law_alike (xCons (xCall m_corners_at (xCons (x2 gIx (xV 3) (xC (.int 2))) (xCons (x2 gIx (xV 3) (xC (.int 3))) (xCons (xV 13) xNil)))) (xCons (xCall m_law_point_of (xCons (xV 3) (xCons (xV 13) xNil))) xNil)))) (sRet (xC (.bl false))) sNil)) (sIf (x2 gNe (x1 gReprK (xV 3)) (xV 4)) (sRet (xC (.bl false))) sNil)))))))))) (sRet (xC (.bl true))))
end DL
namespace DL
open PySem PySem.Spec PyProof.Rows L2
def Bag (B : Bg) : Prop := B.cs.length ≤ 63
theorem cut_ints (cs : List Int) (k : Int) : ∃ es : List Int, cutL (cs.map D.int) (some k) none = es.map D.int ∧ es.length ≤ cs.length := by
  refine ⟨(cs.drop (HT.sIx (cs.map D.int).length 0 (some k))).take (HT.sIx (cs.map D.int).length (cs.map D.int).length none - HT.sIx (cs.map D.int).length 0 (some k)), ?_, ?_⟩
  · unfold cutL
    rw [List.map_take, List.map_drop]
  · rw [List.length_take, List.length_drop]
    omega
theorem first_int (es : List Int) : ∃ c : Int, gIx (.lst (es.map D.int ++ [D.int 0])) (.int 0) = some (.int c) := by
  cases es with
  | nil => exact ⟨0, rfl⟩
  | cons e es =>
    refine ⟨e, ?_⟩
    show atI (D.int e :: (es.map D.int ++ [D.int 0])) 0 = _
    exact atI_nat (j := 0) rfl
theorem mul_right_small {i j : Int} (h : -(2 ^ 64) < j ∧ j < 2 ^ 64) : gMul (.int i) (.int j) = some (.int (i * j)) := by
  show (if mulOk i j = true then _ else _) = _
  refine if_pos ?_
  unfold mulOk
  rw [decide_eq_true h, Bool.or_true, Bool.true_or]
theorem mul_left_small {i j : Int} (h : -(2 ^ 64) < i ∧ i < 2 ^ 64) : gMul (.int i) (.int j) = some (.int (i * j)) := by
  show (if mulOk i j = true then _ else _) = _
  refine if_pos ?_
  unfold mulOk
  rw [decide_eq_true h, Bool.true_or, Bool.true_or]
theorem gMod_pos {i j : Int} (h : 0 < j) : gMod (.int i) (.int j) = some (.int (i % j)) := if_pos h
theorem take_head (B : Bg) (hB : Bag B) (n : Int) : ∃ (ρ : Env) (B' : Bg), ρ.length = 7 ∧ ρ.getD 0 none = some .bag ∧ ρ.getD 1 none = some (.int n) ∧ Bag B' ∧
    (sIf (x2 gEq (xBag 0 .k0) (xC (.int 0))) (sSeq (sSet 2 (x2 gIx (x2 gAdd (xSl gSl (xCells 0) (xPs (xBag 0 .k2)) xPn) (xLst (xCons (xC (.int 0)) xNil))) (xC (.int 0)))) (sSeq (sBagAug 0 .k2 (xC (.int 1))) (sSeq (sIf (x2 gGe (xV 2) (x2 gPow (xC (.int 10)) (xC (.int 18)))) (sBag 0 .k0 (xV 2)) sNil) (sSeq (sSet 3 (x2 gAdd (x2 gAdd (x2 gMul (xBag 0 .k1) (xC (.int 48271))) (x2 gMod (x1 gInt (xV 2)) (xC (.int 2147483647)))) (x2 gMul (xC (.int 7919)) (xBag 0 .k2)))) (sBag 0 .k1 (x2 gMod (x1 gInt (xV 3)) (xC (.int 2147483647)))))))) sNil)
      [some .bag, some (.int n), none, none, none, none, none] B = some (.nx ρ, B') := by
  obtain ⟨c0, c1, c2, cs⟩ := B
  have hB : cs.length ≤ 63 := hB
  by_cases h : c0 = 0
  · subst h
    obtain ⟨es, e1, e2⟩ := cut_ints cs c2
    obtain ⟨c, e3⟩ := first_int es
    have hz : sizeLine = 1152921504606846976 ∨ 100 ≤ sizeLine := .inr (by decide)
    have e4 : x2 gIx (x2 gAdd (xSl gSl (xCells 0) (xPs (xBag 0 .k2)) xPn) (xLst (xCons (xC (.int 0)) xNil))) (xC (.int 0)) [some .bag, some (.int n), none, none, none, none, none] ⟨0, c1, c2, cs⟩ = some (.int c, ⟨0, c1, c2, cs⟩) := by
      refine x2_run (x := .lst (es.map D.int ++ [D.int 0])) (x2_run (x := .lst (es.map D.int)) (y := .lst [.int 0]) ?_ rfl ?_) rfl e3
      · show some (D.lst (cutL (cs.map D.int) (some c2) none), _) = _
        rw [e1]
      · show (if (es.map D.int).length + 1 ≤ sizeLine then _ else _) = _
        refine if_pos ?_
        rw [List.length_map]
        rcases hz with hz | hz <;> omega
    by_cases h1 : (10 : Int) ^ 18 ≤ c
    · refine ⟨[some .bag, some (.int n), some (.int c), some (.int (c1 * 48271 + c % 2147483647 + 7919 * (c2 + 1))), none, none, none], ⟨c, (c1 * 48271 + c % 2147483647 + 7919 * (c2 + 1)) % 2147483647, c2 + 1, cs⟩, rfl, rfl, rfl, hB, if_t rfl (seq_nx (set_run e4) (seq_nx rfl (seq_nx (if_t (B1 := ⟨0, c1, c2 + 1, cs⟩) ?_ rfl) (seq_nx (set_run (x2_run (x := .int (c1 * 48271 + c % 2147483647)) (x2_run (x2_run rfl rfl (mul_right_small (by decide))) rfl rfl) (x2_run rfl rfl (mul_left_small (by decide))) rfl)) ?_))))⟩
      · show some (D.bl (decide ((10 : Int) ^ 18 ≤ c)), _) = _
        rw [decide_eq_true h1]
        rfl
      · rfl
    · refine ⟨[some .bag, some (.int n), some (.int c), some (.int (c1 * 48271 + c % 2147483647 + 7919 * (c2 + 1))), none, none, none], ⟨0, (c1 * 48271 + c % 2147483647 + 7919 * (c2 + 1)) % 2147483647, c2 + 1, cs⟩, rfl, rfl, rfl, hB, if_t rfl (seq_nx (set_run e4) (seq_nx rfl (seq_nx (if_f (B1 := ⟨0, c1, c2 + 1, cs⟩) ?_ rfl) (seq_nx (set_run (x2_run (x := .int (c1 * 48271 + c % 2147483647)) (x2_run (x2_run rfl rfl (mul_right_small (by decide))) rfl rfl) (x2_run rfl rfl (mul_left_small (by decide))) rfl)) ?_))))⟩
      · show some (D.bl (decide ((10 : Int) ^ 18 ≤ c)), _) = _
        rw [decide_eq_false h1]
        rfl
      · rfl
  · refine ⟨[some .bag, some (.int n), none, none, none, none, none], ⟨c0, c1, c2, cs⟩, rfl, rfl, rfl, hB, if_f ?_ rfl⟩
    show some (D.bl (c0 == 0), _) = _
    rw [beq_false_of_ne h]
theorem take_ok (B : Bg) (hB : Bag B) (n : Int) (h0 : 0 < n) (h1 : n < 1073741824) : ∃ (v : Int) (B' : Bg), m_law_take [.bag, .int n] B = some (.int v, B') ∧ 0 ≤ v ∧ v < n ∧ Bag B' := by
  obtain ⟨ρ, B1, hl, r0, r1, hB1, e⟩ := take_head B hB n
  match ρ, hl, r0, r1, e with
  | [x0, x1, x2', x3, x4, x5, x6], _, r0, r1, e =>
    have r0 : x0 = some .bag := r0
    have r1 : x1 = some (.int n) := r1
    subst r0
    subst r1
    obtain ⟨c0, c1, c2, cs⟩ := B1
    by_cases h : 0 < c0
    · refine ⟨c0 % n, ⟨c0 / n, c1, c2, cs⟩, fn_run rfl (seq_nx e (seq_rt (if_t (B1 := ⟨c0, c1, c2, cs⟩) ?_ (seq_nx (set_run (x2_run rfl rfl (gMod_pos h0))) (seq_nx (ρ1 := [some .bag, some (.int n), x2', x3, some (.int (c0 % n)), x5, x6]) (B1 := ⟨c0 / n, c1, c2, cs⟩) ?_ rfl))))), Int.emod_nonneg _ (by omega), Int.emod_lt_of_pos _ h0, hB1⟩
      · show some (D.bl (decide (0 < c0)), _) = _
        rw [decide_eq_true h]
      · have q : x2 gDiv (x1 gInt (xBag 0 .k0)) (xV 1) [some .bag, some (.int n), x2', x3, some (.int (c0 % n)), x5, x6] ⟨c0, c1, c2, cs⟩ = some (.int (c0 / n), ⟨c0, c1, c2, cs⟩) := x2_run rfl rfl (if_pos ⟨h0, h1⟩)
        show sBag 0 .k0 (x2 gDiv (x1 gInt (xBag 0 .k0)) (xV 1)) [some .bag, some (.int n), x2', x3, some (.int (c0 % n)), x5, x6] ⟨c0, c1, c2, cs⟩ = _
        unfold sBag
        rw [q]
        rfl
    · have key : ∃ v : Int, b_law_take [some .bag, some (.int n), none, none, none, none, none] B = some (.rt (.int (v % n)), ⟨c0, c1, c2, cs⟩) := by
        refine ⟨_, seq_nx e (seq_nx (if_f (B1 := ⟨c0, c1, c2, cs⟩) ?_ rfl) (seq_nx (set_run (d := .int (((c1 + 1) * 39373) % 1000000007)) (x2_run (x1_run (x2_run rfl rfl (mul_right_small (by decide))) rfl) rfl rfl)) (seq_nx (set_run (d := .int (((((c1 + 1) * 39373) % 1000000007) * (((c1 + 1) * 39373) % 1000000007)) % 998244353 * 30011 % 998244353)) (x2_run (x1_run (x2_run (x2_run (x1_run (x2_run rfl rfl (mul_right_small ?_)) rfl) rfl rfl) rfl (mul_right_small (by decide))) rfl) rfl rfl)) (ret_run (x2_run (x1_run rfl rfl) rfl (gMod_pos h0))))))⟩
        · show some (D.bl (decide (0 < c0)), _) = _
          rw [decide_eq_false h]
        · have a1 := Int.emod_nonneg ((c1 + 1) * 39373) (b := 1000000007) (by decide)
          have a2 := Int.emod_lt_of_pos ((c1 + 1) * 39373) (b := 1000000007) (by decide)
          omega
      obtain ⟨v, key⟩ := key
      exact ⟨v % n, _, fn_run rfl key, Int.emod_nonneg _ (by omega), Int.emod_lt_of_pos _ h0, hB1⟩
theorem bag0_ok (ns : List Int) : Bag (bag0 ns) := by
  show (cellsOf ns).length ≤ 63
  unfold cellsOf
  rw [List.length_map, List.length_take]
  omega
theorem some_lst (B : Bg) (hB : Bag B) (ds : List D) (h0 : ds ≠ []) (h1 : ds.length < 1000) : ∃ (i : Nat) (d : D) (B' : Bg), m_law_some [.bag, .lst ds] B = some (d, B') ∧ ds[i]? = some d ∧ Bag B' := by
  have hp : 0 < ds.length := List.length_pos_iff.mpr h0
  obtain ⟨v, B', e, v0, v1, hB'⟩ := take_ok B hB (ds.length : Nat) (by omega) (by omega)
  obtain ⟨j, rfl⟩ := Int.eq_ofNat_of_zero_le v0
  have hj : j < ds.length := by omega
  refine ⟨j, ds[j], B', fn_run rfl (ret_run (x2_run rfl (call_run (cons_run rfl (cons_run (x1_run rfl rfl) rfl)) e) ?_)), List.getElem?_eq_getElem hj, hB'⟩
  exact atI_nat (List.getElem?_eq_getElem hj)
theorem len_small {n : Nat} (h : n ≤ 1000000) : n ≤ sizeLine := Nat.le_trans h (by decide)
section
variable {ρ ρ1 : Env} {B B1 B2 : Bg} {d x y o : D} {ds es : List D} {f fk : Ex} {i : Nat}
theorem setI_run {o' : D} (e : f ρ B = some (d, B1)) (e2 : fk ρ B1 = some (x, B2)) (e3 : ρ.getD i none = some o) (e4 : gSetI o x d = some o') : sSetI i fk f ρ B = some (.nx (ρ.set i (some o')), B2) := by
  simp only [sSetI, e, e2, e3, e4, Option.bind_some, Option.map_some]
theorem mut_run {g : List D → D → Option (List D)} (e : f ρ B = some (d, B1)) (e2 : ρ.getD i none = some (.lst ds)) (e3 : g ds d = some es) : sMut i g f ρ B = some (.nx (ρ.set i (some (.lst es))), B1) := by
  simp only [sMut, e, e2, e3, Option.bind_some, Option.map_some]
theorem ins_run {k : Nat} (e : fk ρ B = some (.int (k : Int), B1)) (e1 : f ρ B1 = some (d, B2)) (e2 : ρ.getD i none = some (.lst ds)) (hl : ds.length < 1000) (hk : k < 1000) : sIns i fk f ρ B = some (.nx (ρ.set i (some (.lst (ds.take k ++ [d] ++ ds.drop k)))), B2) := by
  have h : ∀ j : Int, ds.length < sizeLine ∧ 0 ≤ j ∧ j < 2 ^ 63 → (if ds.length < sizeLine ∧ 0 ≤ j ∧ j < 2 ^ 63 then some (Out.nx (ρ.set i (some (.lst (ds.take j.toNat ++ [d] ++ ds.drop j.toNat)))), B2) else none) = some (Out.nx (ρ.set i (some (.lst (ds.take j.toNat ++ [d] ++ ds.drop j.toNat)))), B2) := fun j h => if_pos h
  have h1 : (k : Int) < 2 ^ 63 := by omega
  have h3 := h (k : Int) ⟨Nat.lt_of_lt_of_le hl (len_small (by omega)), by omega, h1⟩
  rw [Int.toNat_natCast] at h3
  simp only [sIns, e, e1, e2, Option.bind_some]
  rw [Int.toNat_natCast]
  exact h3
theorem aug_run {g : D → D → Option D} (e : ρ.getD i none = some x) (e1 : f ρ B = some (y, B1)) (e2 : g x y = some d) : sAug i g f ρ B = some (.nx (ρ.set i (some d)), B1) := by
  simp only [sAug, e, e1, e2, Option.bind_some, Option.map_some]
theorem it_run (e : f ρ B = some (d, B1)) (e2 : itemsOf d = some ds) : xIt f ρ B = some (ds, B1) := by
  simp only [xIt, e, e2, Option.bind_some, Option.map_some]
theorem unp_run {T : Tg} (e : f ρ B = some (d, B1)) (e2 : T d ρ = some ρ1) : sUnp T f ρ B = some (.nx ρ1, B1) := by
  simp only [sUnp, e, e2, Option.bind_some, Option.map_some]
end
def nN (i : Nat) : D := .int (i : Int)
def nl (xs : List Nat) : List D := xs.map nN
def at0 (s : List Nat) (i : Nat) : Nat := s.getD i 0
def Box (A : D) (n : Nat) (f : Nat → D) : Prop := ∀ i : Nat, i < n → gIx A (nN i) = some (f i)
theorem at0_get {s : List Nat} {i : Nat} (h : i < s.length) : s[i]? = some (at0 s i) := by
  unfold at0
  rw [List.getD_eq_getElem?_getD, List.getElem?_eq_getElem h]
  rfl
theorem at0_mem {s : List Nat} {i : Nat} (h : i < s.length) : at0 s i ∈ s := List.mem_of_getElem? (at0_get h)
theorem nl_get {s : List Nat} {i : Nat} (h : i < s.length) : (nl s)[i]? = some (nN (at0 s i)) := by
  unfold nl
  rw [List.getElem?_map, at0_get h]
  rfl
def tx (ns : List Nat) : Str := ⟨ns.toArray⟩
def pD (p : Nat × Nat) : D := .tup [nN p.1, nN p.2]
theorem nN_gt (i j : Nat) : gGt (nN i) (nN j) = some (.bl (decide (j < i))) := by
  show some (D.bl (decide ((j : Int) < (i : Int)))) = _
  rw [decide_eq_decide.mpr Int.ofNat_lt]
theorem nN_eq (i j : Nat) : gEq (nN i) (nN j) = some (.bl (decide (i = j))) := by
  show some (D.bl ((i : Int) == (j : Int))) = _
  congr 2
  rw [Bool.eq_iff_iff, beq_iff_eq, decide_eq_true_iff]
  omega
def slp : List Bool → Nat × Nat
  | [] => (1, 1)
  | true :: w => ((slp w).1 + (slp w).2, (slp w).2)
  | false :: w => ((slp w).1, (slp w).1 + (slp w).2)
def lw (w : List Bool) : List Nat := w.map fun b => if b then 108 else 114
def cr (p q : Nat) : Nat → Nat → Nat → List Nat
  | 0, _, _ => []
  | k + 1, i, j => if i < p ∧ (j = q ∨ i * q < j * p) then 115 :: cr p q k (i + 1) j else 117 :: cr p q k i (j + 1)
def fl (c : Nat) : List Nat := if c = 115 then [115] else [115, 117]
def fr' (c : Nat) : List Nat := if c = 115 then [117, 115] else [117]
def cs (p : Nat × Nat) : List Nat := cr p.1 p.2 (p.1 + p.2 - 2) 1 1
def wy : List Bool → List Nat × List Nat → List Nat × List Nat
  | [], e => e
  | true :: w, e => wy w (e.1, e.1 ++ e.2)
  | false :: w, e => wy w (e.2 ++ e.1, e.2)
section
variable {ρ ρ1 : Env} {B : Bg} {fa fb : Ex}
end
section
variable {ρ ρ1 : Env} {B : Bg} {fa fb : Ex}
end
def lcT : Ex := (xAnd (x2 gLt (xV 4) (xV 1)) (xOr (x2 gGe (xV 5) (xV 2)) (x2 gLt (x2 gMul (xV 4) (xV 2)) (x2 gMul (xV 5) (xV 1)))))
def lcB : Sx := (sSeq (sSet 6 lcT) (sSeq (sMut 3 gApp (xIf (xV 6) (xC (.str "s")) (xC (.str "u")))) (sUnp (tT (tsCons (tN 4) (tsCons (tN 5) tsNil))) (xIf (xV 6) (xTup (xCons (x2 gAdd (xV 4) (xC (.int 1))) (xCons (xV 5) xNil))) (xTup (xCons (xV 4) (xCons (x2 gAdd (xV 5) (xC (.int 1))) xNil)))))))
def Slope (m : Nat) (d : D) : Prop := ∃ w : List Bool, d = pD (slp w) ∧ (slp w).1 + (slp w).2 ≤ m
theorem Slope.mono {m n : Nat} {d : D} (h : Slope m d) (hn : m ≤ n) : Slope n d := by
  obtain ⟨w, e, l⟩ := h
  exact ⟨w, e, Nat.le_trans l hn⟩
def ixOf {α : Type} [DecidableEq α] (a : α) : List α → Nat
  | [] => 0
  | x :: xs => if x = a then 0 else ixOf a xs + 1
theorem ixOf_get {α : Type} [DecidableEq α] {a : α} : ∀ {xs : List α}, a ∈ xs → xs[ixOf a xs]? = some a
  | x :: xs, h => by
    unfold ixOf
    by_cases e : x = a
    · rw [if_pos e, e]
      rfl
    · rw [if_neg e, List.getElem?_cons_succ]
      rcases List.mem_cons.mp h with z | z
      · exact absurd z.symm e
      · exact ixOf_get z
theorem ixOf_lt {α : Type} [DecidableEq α] {a : α} {xs : List α} (h : a ∈ xs) : ixOf a xs < xs.length := (List.getElem?_eq_some_iff.mp (ixOf_get h)).1
structure Enc {α : Type} [DecidableEq α] (g : α → D) (k : Nat) : Prop where
  plain : ∀ a, (g a).plain = true
  eqv : ∀ a b, PyData.eqv (g a).py (g b).py = decide (a = b)
  lay : ∀ a, (g a).py.canLay0 = true
  low : ∀ a, (g a).py.depth ≤ k
section
variable {α β : Type} [DecidableEq α] [DecidableEq β] {g : α → D} {h : β → D} {k l : Nat}
theorem Enc.shaped (e : Enc g k) (hk : k ≤ 60) (a : α) : SeqAt.shaped (g a).py = true := by
  unfold SeqAt.shaped
  rw [e.lay a, Bool.true_and, decide_eq_true_eq]
  exact Nat.le_trans (e.low a) (by omega)
theorem Enc.eqOk (e : Enc g k) (hk : k ≤ 60) (a b : α) : eqOk (g a) (g b) = true := by
  unfold DL.eqOk
  rw [e.plain, e.plain, e.shaped hk, e.shaped hk]
  rfl
theorem Enc.eq (e : Enc g k) (hk : k ≤ 60 := by decide) (a b : α) : gEq (g a) (g b) = some (.bl (decide (a = b))) := by
  unfold gEq
  rw [if_pos (e.eqOk hk a b)]
  unfold eqB
  rw [e.eqv]
theorem Enc.ne (e : Enc g k) (hk : k ≤ 60 := by decide) (a b : α) : gNe (g a) (g b) = some (.bl (!decide (a = b))) := by
  unfold gNe
  rw [if_pos (e.eqOk hk a b)]
  unfold eqB
  rw [e.eqv]
theorem Enc.inj (e : Enc g k) {a b : α} (q : g a = g b) : a = b := by
  have := e.eqv a b
  rw [q, e.eqv b b] at this
  exact of_decide_eq_true (this.symm.trans (decide_eq_true rfl))
theorem Enc.all (e : Enc g k) : ∀ xs : List α, plainL (xs.map g) = true ∧ PyData.canLayAll0 (pyL (xs.map g)) = true ∧ PyData.depthAll (pyL (xs.map g)) ≤ k
  | [] => ⟨rfl, rfl, Nat.zero_le _⟩
  | x :: xs => by
    obtain ⟨h1, h2, h3⟩ := e.all xs
    refine ⟨?_, ?_, ?_⟩
    · show ((g x).plain && plainL (xs.map g)) = true
      rw [e.plain, h1]
      rfl
    · show ((g x).py.canLay0 && PyData.canLayAll0 (pyL (xs.map g))) = true
      rw [e.lay, h2]
      rfl
    · show PyData.depthAll ((g x).py :: pyL (xs.map g)) ≤ k
      unfold PyData.depthAll
      exact Nat.max_le.mpr ⟨e.low x, h3⟩
theorem Enc.shapedL (e : Enc g k) (hk : k ≤ 60) (xs : List α) : SeqAt.shaped (.list (pyL (xs.map g))) = true := by
  obtain ⟨_, h2, h3⟩ := e.all xs
  unfold SeqAt.shaped
  have a : PyData.canLay0 (.list (pyL (xs.map g))) = true := by
    unfold PyData.canLay0
    exact h2
  rw [a, Bool.true_and, decide_eq_true_eq]
  unfold PyData.depth
  omega
theorem Enc.inOk (e : Enc g k) (hk : k ≤ 60) (a : α) (xs : List α) : inOk (g a) (xs.map g) = true := by
  unfold DL.inOk
  rw [e.plain, (e.all xs).1, e.shaped hk, e.shapedL hk]
  rfl
theorem Enc.inB (e : Enc g k) (a : α) : ∀ xs : List α, inB (g a) (xs.map g) = decide (a ∈ xs)
  | [] => rfl
  | x :: xs => by
    have ih := e.inB a xs
    unfold DL.inB at ih ⊢
    show (PyData.eqv (g x).py (g a).py || (pyL (xs.map g)).any fun y => PyData.eqv y (g a).py) = _
    rw [ih, e.eqv]
    by_cases h1 : x = a
    · subst h1
      simp
    · have h2 : ¬ a = x := fun z => h1 z.symm
      simp [h1, h2]
theorem Enc.inL (e : Enc g k) (hk : k ≤ 60 := by decide) (t : Bool) (a : α) (xs : List α) : gInA t (g a) (.lst (xs.map g)) = some (.bl (if t then decide (a ∈ xs) else !decide (a ∈ xs))) := by
  show (if DL.inOk (g a) (xs.map g) then some (D.bl (if t then DL.inB (g a) (xs.map g) else !DL.inB (g a) (xs.map g))) else none) = _
  rw [if_pos (e.inOk hk a xs), e.inB]
theorem Enc.inT (e : Enc g k) (hk : k ≤ 60 := by decide) (t : Bool) (a : α) (xs : List α) : gInA t (g a) (.tup (xs.map g)) = some (.bl (if t then decide (a ∈ xs) else !decide (a ∈ xs))) := by
  show (if DL.inOk (g a) (xs.map g) then some (D.bl (if t then DL.inB (g a) (xs.map g) else !DL.inB (g a) (xs.map g))) else none) = _
  rw [if_pos (e.inOk hk a xs), e.inB]
theorem Enc.inN (e : Enc g k) (hk : k ≤ 60 := by decide) (t : Bool) (a : α) (xs : List α) : gInA t (g a) (.tn (xs.map g)) = some (.bl (if t then decide (a ∈ xs) else !decide (a ∈ xs))) := by
  show (if DL.inOk (g a) (xs.map g) then some (D.bl (if t then DL.inB (g a) (xs.map g) else !DL.inB (g a) (xs.map g))) else none) = _
  rw [if_pos (e.inOk hk a xs), e.inB]
theorem Enc.nL (e : Enc g k) (hk : k ≤ 60 := by decide) (a : α) (xs : List α) {i : Decidable (a ∈ xs)} : gInA false (g a) (.lst (xs.map g)) = some (.bl (!decide (a ∈ xs))) := (e.inL hk false a xs).trans (congrArg (fun b => some (D.bl (!b))) (decide_eq_decide.mpr Iff.rfl))
theorem Enc.yL (e : Enc g k) (hk : k ≤ 60 := by decide) (a : α) (xs : List α) {i : Decidable (a ∈ xs)} : gInA true (g a) (.lst (xs.map g)) = some (.bl (decide (a ∈ xs))) := (e.inL hk true a xs).trans (congrArg (fun b => some (D.bl (b))) (decide_eq_decide.mpr Iff.rfl))
theorem Enc.notN (e : Enc g k) (hk : k ≤ 60 := by decide) (a : α) (xs : List α) {i : Decidable (a ∈ xs)} : gInA false (g a) (.tn (xs.map g)) = some (.bl (!decide (a ∈ xs))) := (e.inN hk false a xs).trans (congrArg (fun b => some (D.bl (!b))) (decide_eq_decide.mpr Iff.rfl))
theorem Enc.yN (e : Enc g k) (hk : k ≤ 60 := by decide) (a : α) (xs : List α) {i : Decidable (a ∈ xs)} : gInA true (g a) (.tn (xs.map g)) = some (.bl (decide (a ∈ xs))) := (e.inN hk true a xs).trans (congrArg (fun b => some (D.bl (b))) (decide_eq_decide.mpr Iff.rfl))
theorem Enc.yT (e : Enc g k) (hk : k ≤ 60 := by decide) (a : α) (xs : List α) {i : Decidable (a ∈ xs)} : gInA true (g a) (.tup (xs.map g)) = some (.bl (decide (a ∈ xs))) := (e.inT hk true a xs).trans (congrArg (fun b => some (D.bl (b))) (decide_eq_decide.mpr Iff.rfl))
theorem Enc.fIx (e : Enc g k) {a : α} : ∀ {xs : List α}, a ∈ xs → fIx (g a).py (pyL (xs.map g)) = some (ixOf a xs)
  | x :: xs, hm => by
    show (if PyData.eqv (g x).py (g a).py then some 0 else (DL.fIx (g a).py (pyL (xs.map g))).map (· + 1)) = _
    rw [e.eqv]
    unfold ixOf
    by_cases h1 : x = a
    · subst h1
      simp
    · have hm2 : a ∈ xs := by
        rcases List.mem_cons.mp hm with z | z
        · exact absurd z.symm h1
        · exact z
      rw [e.fIx hm2, if_neg h1, decide_eq_false h1]
      rfl
theorem Enc.idxL (e : Enc g k) (hk : k ≤ 60 := by decide) {a : α} {xs : List α} (hm : a ∈ xs) : gIdx (.lst (xs.map g)) (g a) = some (nN (ixOf a xs)) := by
  show (if DL.inOk (g a) (xs.map g) then (DL.fIx (g a).py (pyL (xs.map g))).map fun j => D.int (j : Nat) else none) = _
  rw [if_pos (e.inOk hk a xs), e.fIx hm]
  rfl
theorem Enc.idxN (e : Enc g k) (hk : k ≤ 60 := by decide) {a : α} {xs : List α} (hm : a ∈ xs) : gIdx (.tn (xs.map g)) (g a) = some (nN (ixOf a xs)) := by
  show (if DL.inOk (g a) (xs.map g) then (DL.fIx (g a).py (pyL (xs.map g))).map fun j => D.int (j : Nat) else none) = _
  rw [if_pos (e.inOk hk a xs), e.fIx hm]
  rfl
theorem eqvL (e : Enc g k) : ∀ xs ys : List α, PyData.eqvAll (pyL (xs.map g)) (pyL (ys.map g)) = decide (xs = ys)
  | [], [] => rfl
  | [], y :: ys => rfl
  | x :: xs, [] => rfl
  | x :: xs, y :: ys => by
    show (PyData.eqv (g x).py (g y).py && PyData.eqvAll (pyL (xs.map g)) (pyL (ys.map g))) = _
    rw [e.eqv, eqvL e xs ys, Bool.eq_iff_iff]
    simp
theorem enc_pair (e : Enc g k) (f : Enc h k) : Enc (fun p : α × β => D.tup [g p.1, h p.2]) (k + 1) where
  plain := fun p => by
    show ((g p.1).plain && ((h p.2).plain && true)) = true
    rw [e.plain, f.plain]
    rfl
  eqv := fun p q => by
    show (PyData.eqv (g p.1).py (g q.1).py && (PyData.eqv (h p.2).py (h q.2).py && true)) = _
    rw [e.eqv, f.eqv, Bool.eq_iff_iff]
    simp [Prod.ext_iff]
  lay := fun p => by
    show ((g p.1).py.canLay0 && ((h p.2).py.canLay0 && true)) = true
    rw [e.lay, f.lay]
    rfl
  low := fun p => by
    show PyData.depth (.tuple [(g p.1).py, (h p.2).py]) ≤ k + 1
    unfold PyData.depth PyData.depthAll PyData.depthAll PyData.depthAll
    have := e.low p.1
    have := f.low p.2
    omega
theorem enc_lst (e : Enc g k) : Enc (fun xs : List α => D.lst (xs.map g)) (k + 1) where
  plain := fun xs => (e.all xs).1
  eqv := fun xs ys => eqvL e xs ys
  lay := fun xs => by
    show PyData.canLay0 (.list (pyL (xs.map g))) = true
    unfold PyData.canLay0
    exact (e.all xs).2.1
  low := fun xs => by
    show PyData.depth (.list (pyL (xs.map g))) ≤ k + 1
    unfold PyData.depth
    have := (e.all xs).2.2
    omega
theorem enc_tn (e : Enc g k) : Enc (fun xs : List α => D.tn (xs.map g)) (k + 1) where
  plain := fun xs => (e.all xs).1
  eqv := fun xs ys => eqvL e xs ys
  lay := fun xs => by
    show PyData.canLay0 (.tuple (pyL (xs.map g))) = true
    unfold PyData.canLay0
    exact (e.all xs).2.1
  low := fun xs => by
    show PyData.depth (.tuple (pyL (xs.map g))) ≤ k + 1
    unfold PyData.depth
    have := (e.all xs).2.2
    omega
end
theorem Enc.mono {α : Type} [DecidableEq α] {g : α → D} {k l : Nat} (e : Enc g k) (h : k ≤ l) : Enc g l := ⟨e.plain, e.eqv, e.lay, fun a => Nat.le_trans (e.low a) h⟩
theorem enc_int : Enc D.int 0 := ⟨fun _ => rfl, fun a b => by
  show (a == b) = _
  rw [Bool.eq_iff_iff]
  simp, fun _ => rfl, fun _ => Nat.le_refl _⟩
theorem enc_nN : Enc nN 0 := ⟨fun _ => rfl, fun a b => by
  show ((a : Int) == (b : Int)) = _
  rw [Bool.eq_iff_iff, beq_iff_eq, decide_eq_true_iff]
  omega, fun _ => rfl, fun _ => Nat.le_refl _⟩
def oD : Option Nat → D
  | none => .non
  | some c => nN c
theorem enc_oD : Enc oD 0 := ⟨fun a => by cases a <;> rfl, fun a b => by
  cases a with
  | none => cases b <;> rfl
  | some a =>
    cases b with
    | none => rfl
    | some b =>
      refine (enc_nN.eqv a b).trans ?_
      simp, fun a => by cases a <;> rfl, fun a => by cases a <;> exact Nat.le_refl _⟩
inductive Sd where
  | down | left | right | up
  deriving DecidableEq
def sdS : Sd → Str
  | .down => "down"
  | .left => "left"
  | .right => "right"
  | .up => "up"
def sdD (s : Sd) : D := .str (sdS s)
theorem enc_sd : Enc sdD 0 := ⟨fun a => by cases a <;> rfl, fun a b => by cases a <;> cases b <;> decide +kernel, fun a => by cases a <;> decide +kernel, fun a => by cases a <;> exact Nat.le_refl _⟩
abbrev Ed := Sd × Nat
def edD (e : Ed) : D := .tup [sdD e.1, nN e.2]
theorem enc_ed : Enc edD 1 := enc_pair enc_sd enc_nN
def zD (p : Int × Int) : D := .tup [.int p.1, .int p.2]
theorem enc_z : Enc zD 1 := enc_pair enc_int enc_int
abbrev Cn := Nat × Nat × Nat
def cnD (c : Cn) : D := .tup [nN c.1, nN c.2.1, nN c.2.2]
theorem enc_cn : Enc cnD 1 := ⟨fun _ => rfl, fun p q => by
  show (((p.1 : Int) == (q.1 : Int)) && (((p.2.1 : Int) == (q.2.1 : Int)) && (((p.2.2 : Int) == (q.2.2 : Int)) && true))) = _
  obtain ⟨a, b, c⟩ := p
  obtain ⟨a', b', c'⟩ := q
  rw [Bool.eq_iff_iff]
  simp only [Bool.and_eq_true, beq_iff_eq, decide_eq_true_iff, Prod.mk.injEq, and_true]
  omega, fun _ => rfl, fun p => by
  show PyData.depth (.tuple [.int _, .int _, .int _]) ≤ 1
  exact Nat.le_refl _⟩
abbrev Lb := Nat × Nat × Nat × Nat
def lbD (c : Lb) : D := .tup [nN c.1, nN c.2.1, nN c.2.2.1, nN c.2.2.2]
theorem za (i j : Nat) : gAdd (nN i) (nN j) = some (nN (i + j)) := by
  show some (D.int ((i : Int) + (j : Int))) = some (D.int ((i + j : Nat) : Int))
  rw [Int.natCast_add]
theorem zs {i j : Nat} (h : j ≤ i) : gSub (nN i) (nN j) = some (nN (i - j)) := by
  show some (D.int ((i : Int) - (j : Int))) = some (D.int ((i - j : Nat) : Int))
  rw [Int.ofNat_sub h]
theorem z_lt (i j : Nat) : gLt (nN i) (nN j) = some (.bl (decide (i < j))) := by
  show some (D.bl (decide ((i : Int) < (j : Int)))) = _
  rw [decide_eq_decide.mpr Int.ofNat_lt]
theorem z_gt (i j : Nat) : gGt (nN i) (nN j) = some (.bl (decide (j < i))) := by
  show some (D.bl (decide ((j : Int) < (i : Int)))) = _
  rw [decide_eq_decide.mpr Int.ofNat_lt]
theorem z_eq (i j : Nat) : gEq (nN i) (nN j) = some (.bl (decide (i = j))) := enc_nN.eq (by decide) i j
theorem ix_lst {ds : List D} {i : Nat} {d : D} (h : ds[i]? = some d) : gIx (.lst ds) (nN i) = some d := atI_nat h
theorem ix_tup {ds : List D} {i : Nat} {d : D} (h : ds[i]? = some d) : gIx (.tup ds) (nN i) = some d := atI_nat h
theorem ix_tn {ds : List D} {i : Nat} {d : D} (h : ds[i]? = some d) : gIx (.tn ds) (nN i) = some d := atI_nat h
theorem map_get {α : Type} {g : α → D} {xs : List α} {i : Nat} {a : α} (h : xs[i]? = some a) : (xs.map g)[i]? = some (g a) := by
  rw [List.getElem?_map, h]
  rfl
theorem is_oD (o : Option Nat) : gIs (oD o) .non = some (.bl (decide (o = none))) := by
  cases o <;> rfl
theorem isNot_oD (o : Option Nat) : gIsNot (oD o) .non = some (.bl (!decide (o = none))) := by
  cases o <;> rfl
theorem perm_map {α : Type} {g : α → D} : ∀ {ds : List D} {as : List α}, ds.Perm (as.map g) → ∃ bs : List α, ds = bs.map g ∧ bs.Perm as := by
  intro ds
  induction ds with
  | nil =>
    intro as h
    have : as = [] := List.map_eq_nil_iff.mp (List.Perm.eq_nil h.symm)
    exact ⟨[], rfl, by rw [this]⟩
  | cons d ds ih =>
    intro as h
    obtain ⟨a, ha, e⟩ := List.mem_map.mp (h.mem_iff.mp List.mem_cons_self)
    obtain ⟨l1, l2, rfl⟩ := List.append_of_mem ha
    have pM : (l1 ++ a :: l2).Perm (a :: (l1 ++ l2)) := List.perm_middle
    have q1 : (d :: ds).Perm (g a :: (l1 ++ l2).map g) := h.trans (pM.map _)
    rw [e] at q1
    obtain ⟨bs, e1, p1⟩ := ih q1.cons_inv
    exact ⟨a :: bs, by rw [List.map_cons, e, e1], (List.Perm.cons a p1).trans pM.symm⟩
theorem forGo_map {α : Type} {T : Tg} {body : Sx} (g : α → D) (I : List α → List α → Env → Bg → Prop)
    (step : ∀ done a rest ρ B, I done (a :: rest) ρ B → ∃ ρ1 ρ2 B1, T (g a) ρ = some ρ1 ∧ body ρ1 B = some (.nx ρ2, B1) ∧ I (done ++ [a]) rest ρ2 B1) :
    ∀ rest done ρ B, I done rest ρ B → ∃ ρ' B', forGo T body (rest.map g) ρ B = some (.nx ρ', B') ∧ I (done ++ rest) [] ρ' B'
  | [], done, ρ, B, h => ⟨ρ, B, rfl, by rw [List.append_nil]; exact h⟩
  | a :: rest, done, ρ, B, h => by
    obtain ⟨ρ1, ρ2, B1, e1, e2, h2⟩ := step done a rest ρ B h
    obtain ⟨ρ', B', e3, h3⟩ := forGo_map g I step rest (done ++ [a]) ρ2 B1 h2
    refine ⟨ρ', B', forGo_nx e1 e2 e3, ?_⟩
    rw [List.append_assoc] at h3
    exact h3
theorem lc_fm {α : Type} {T : Tg} {c fe : Ex} {ρ : Env} {B : Bg} (g : α → D) (q : α → Bool) (h : α → D) : ∀ ks : List α, (∀ k ∈ ks, ∃ ρ1, T (g k) ρ = some ρ1 ∧ c ρ1 B = some (.bl (q k), B) ∧ (q k = true → fe ρ1 B = some (h k, B))) →
    lcGo T c fe (ks.map g) ρ B = some ((ks.filter q).map h, B)
  | [], _ => rfl
  | k :: ks, st => by
    obtain ⟨ρ1, e1, e2, e3⟩ := st k List.mem_cons_self
    have ih := lc_fm g q h ks fun x hx => st x (List.mem_cons_of_mem _ hx)
    show (T (g k) ρ).bind _ = _
    rw [e1]
    show (c ρ1 B).bind _ = _
    rw [e2]
    cases z : q k with
    | true =>
      rw [List.filter_cons_of_pos z]
      show (fe ρ1 B).bind _ = _
      rw [e3 z]
      show (lcGo T c fe (ks.map g) ρ B).map _ = _
      rw [ih]
      rfl
    | false =>
      rw [List.filter_cons_of_neg (by rw [z]; decide)]
      exact ih
theorem lc_mp {α : Type} {T : Tg} {fe : Ex} {ρ : Env} {B : Bg} (g h : α → D) (ks : List α) (st : ∀ k ∈ ks, ∃ ρ1, T (g k) ρ = some ρ1 ∧ fe ρ1 B = some (h k, B)) : lcGo T xYes fe (ks.map g) ρ B = some (ks.map h, B) := by
  have := lc_fm (c := xYes) g (fun _ => true) h ks fun k hk => by
    obtain ⟨ρ1, e1, e2⟩ := st k hk
    exact ⟨ρ1, e1, rfl, fun _ => e2⟩
  rw [List.filter_eq_self.mpr fun _ _ => rfl] at this
  exact this
theorem rgT_gen {f : Ex} {ρ : Env} {B B1 : Bg} {j : Int} (e : f ρ B = some (.int j, B1)) (h : j < 2 ^ 62 ∧ -(2 ^ 62) ≤ j) : xRng1 f ρ B = some ((List.range j.toNat).map fun k => .int (k : Nat), B1) := by
  unfold xRng1
  rw [e]
  exact if_pos h
theorem rgT {f : Ex} {ρ : Env} {B B1 : Bg} {n : Nat} (hn : n ≤ 100000) (e : f ρ B = some (nN n, B1)) : xRng1 f ρ B = some ((List.range n).map nN, B1) := by
  have q := rgT_gen (j := (n : Int)) e (by omega)
  rw [q]
  rfl
theorem rgT2_gen {f g : Ex} {ρ : Env} {B : Bg} {i j : Int} (e : f ρ B = some (.int i, B)) (e2 : g ρ B = some (.int j, B)) (h : (j < 2 ^ 62 ∧ -(2 ^ 62) ≤ j) ∧ (i < 2 ^ 62 ∧ -(2 ^ 62) ≤ i)) : xRng2 f g ρ B = some ((List.range (j - i).toNat).map fun k => .int (i + (k : Nat)), B) := by
  unfold xRng2
  rw [e]
  show (g ρ B).bind _ = _
  rw [e2]
  exact if_pos h
theorem rgT2 {f g : Ex} {ρ : Env} {B : Bg} {i j : Nat} (hi : i ≤ 100000) (hj : j ≤ 100000) (e : f ρ B = some (nN i, B)) (e2 : g ρ B = some (nN j, B)) : xRng2 f g ρ B = some ((List.range' i (j - i)).map nN, B) := by
  have q := rgT2_gen (i := (i : Int)) (j := (j : Int)) e e2 (by omega)
  rw [q]
  have z : ((j : Int) - (i : Int)).toNat = j - i := by omega
  rw [z, List.range'_eq_map_range, List.map_map]
  congr 2
theorem rgOk_n {n : Int} (h : 0 ≤ n ∧ n ≤ 100000) : rgOk 0 n = true := by
  unfold rgOk
  rw [decide_eq_true_eq]
  omega
theorem rgD_n (n : Nat) : rgD 0 (n : Int) = (List.range n).map nN := by
  unfold rgD
  rw [Int.sub_zero, Int.toNat_natCast]
  refine List.map_congr_left fun k _ => ?_
  rw [Int.zero_add]
  rfl
theorem gLR_gen {j : Int} (h : rgOk 0 j = true) : gLR1 (.int j) = some (.lst (rgD 0 j)) := if_pos h
theorem gLR {n : Nat} (h : n ≤ 100000) : gLR1 (nN n) = some (.lst ((List.range n).map nN)) := by
  rw [← rgD_n]
  exact gLR_gen (rgOk_n (by omega))
theorem mixed_go (B : Bg) (hB : Bag B) (es : List D) (hn : es.length ≤ 500) : ∃ (xs : List D) (B' : Bg) (r : Option D), sSeq (sSet 2 (xLst xNil)) (sFor (tN 3) (xIt (xV 1)) (sIns 2 (xCall m_law_take (xCons (xV 0) (xCons (x2 gAdd (x1 gLen (xV 2)) (xC (.int 1))) xNil))) (xV 3))) [some .bag, some (.lst es), none, none] B = some (.nx [some .bag, some (.lst es), some (.lst xs), r], B') ∧ xs.Perm es ∧ Bag B' := by
  obtain ⟨ρ', B', e, xs, r, rfl, h4, h7⟩ := forGo_map (T := tN 3) (body := sIns 2 (xCall m_law_take (xCons (xV 0) (xCons (x2 gAdd (x1 gLen (xV 2)) (xC (.int 1))) xNil))) (xV 3)) id
    (fun done rest ρ B => ∃ (xs : List D) (r : Option D), ρ = [some .bag, some (.lst es), some (.lst xs), r] ∧ xs.Perm done ∧ done.length + rest.length ≤ 500 ∧ Bag B)
    (fun done d rest ρ B ⟨xs, r, h3, h4, h6, h7⟩ => by
      subst h3
      rw [List.length_cons] at h6
      have hl := h4.length_eq
      obtain ⟨v, B1, e1, v0, v1, hB1⟩ := take_ok B h7 ((xs.length : Int) + 1) (by omega) (by omega)
      obtain ⟨j, rfl⟩ := Int.eq_ofNat_of_zero_le v0
      have hj : j ≤ xs.length := by omega
      have gl : x2 gAdd (x1 gLen (xV 2)) (xC (.int 1)) [some .bag, some (.lst es), some (.lst xs), some d] B = some (.int ((xs.length : Int) + 1), B) := x2_run (x1_run rfl rfl) rfl rfl
      refine ⟨_, _, B1, rfl, ins_run (ds := xs) (d := d) (B1 := B1) (k := j) (call_run (cons_run rfl (cons_run gl rfl)) e1) rfl rfl (by omega) (by omega), xs.take j ++ [d] ++ xs.drop j, some d, rfl, ?_, ?_, hB1⟩
      · have p1 : (xs.take j ++ [d] ++ xs.drop j).Perm (d :: (xs.take j ++ xs.drop j)) := by
          rw [List.append_assoc]
          exact List.perm_middle
        rw [List.take_append_drop] at p1
        exact p1.trans ((List.Perm.cons d h4).trans (List.perm_append_singleton d done).symm)
      · rw [List.length_append, List.length_singleton]
        omega)
    es [] [some .bag, some (.lst es), some (.lst []), none] B ⟨[], none, rfl, .nil, by rw [List.length_nil]; omega, hB⟩
  rw [List.map_id] at e
  exact ⟨xs, B', r, seq_nx (set_run rfl) (for_run rfl e), h4, h7.2⟩
theorem seq_asc {f g h : Sx} {ρ ρ1 : Env} {B B1 : Bg} {r : Option (Out × Bg)} (e : sSeq f g ρ B = some (.nx ρ1, B1)) (e2 : h ρ1 B1 = r) : sSeq f (sSeq g h) ρ B = r := by
  unfold sSeq at e ⊢
  cases z : f ρ B with
  | none =>
    rw [z] at e
    cases e
  | some p =>
    obtain ⟨o, B0⟩ := p
    rw [z] at e
    cases o with
    | nx ρ0 =>
      have e : g ρ0 B0 = some (.nx ρ1, B1) := e
      show ((g ρ0 B0).bind _) = _
      rw [e]
      exact e2
    | _ => cases e
theorem mixed_p (B : Bg) (hB : Bag B) (es : List D) (hn : es.length ≤ 500) : ∃ (xs : List D) (B' : Bg), m_law_mixed [.bag, .lst es] B = some (.lst xs, B') ∧ xs.Perm es ∧ Bag B' := by
  obtain ⟨xs, B', r, e, h, hB'⟩ := mixed_go B hB es hn
  exact ⟨xs, B', fn_run rfl (seq_asc e (ret_run rfl)), h, hB'⟩
theorem fnF_go {n np i : Nat} {g : Sx} {ds : List D} {ρ : Env} {d : D} {B B1 : Bg} (hl : ds.length = np) (e : g (ds.map some ++ List.replicate (n - np) none) B = some (.nx ρ, B1)) (e2 : ρ.getD i none = some d) : fnOfF n np i g ds B = some (d, B1) := by
  unfold fnOfF
  rw [if_pos hl, e]
  show (ρ.getD i none).map _ = _
  rw [e2]
  rfl
theorem mixed_pF (B : Bg) (hB : Bag B) (es : List D) (hn : es.length ≤ 500) : ∃ (xs : List D) (B' : Bg), mF_law_mixed [.bag, .lst es] B = some (.lst xs, B') ∧ xs.Perm es ∧ Bag B' := by
  obtain ⟨xs, B', r, e, h, hB'⟩ := mixed_go B hB es hn
  exact ⟨xs, B', fnF_go rfl (seq_asc e rfl) rfl, h, hB'⟩
theorem mixed_a {α : Type} (g : α → D) (B : Bg) (hB : Bag B) (as : List α) (hn : as.length ≤ 500) : ∃ (bs : List α) (B' : Bg), m_law_mixed [.bag, .lst (as.map g)] B = some (.lst (bs.map g), B') ∧ bs.Perm as ∧ Bag B' := by
  obtain ⟨xs, B', e, h, hB'⟩ := mixed_p B hB (as.map g) (by rw [List.length_map]; exact hn)
  obtain ⟨bs, rfl, p⟩ := perm_map h
  exact ⟨bs, B', e, p, hB'⟩
theorem mixed_aF {α : Type} (g : α → D) (B : Bg) (hB : Bag B) (as : List α) (hn : as.length ≤ 500) : ∃ (bs : List α) (B' : Bg), mF_law_mixed [.bag, .lst (as.map g)] B = some (.lst (bs.map g), B') ∧ bs.Perm as ∧ Bag B' := by
  obtain ⟨xs, B', e, h, hB'⟩ := mixed_pF B hB (as.map g) (by rw [List.length_map]; exact hn)
  obtain ⟨bs, rfl, p⟩ := perm_map h
  exact ⟨bs, B', e, p, hB'⟩
theorem take_n (B : Bg) (hB : Bag B) (n : Nat) (h0 : 0 < n) (h1 : n < 1000000) : ∃ (v : Nat) (B' : Bg), m_law_take [.bag, nN n] B = some (nN v, B') ∧ v < n ∧ Bag B' := by
  obtain ⟨v, B', e, v0, v1, hB'⟩ := take_ok B hB (n : Int) (by omega) (by omega)
  obtain ⟨j, rfl⟩ := Int.eq_ofNat_of_zero_le v0
  exact ⟨j, B', e, by omega, hB'⟩
structure Jn (n : Nat) (os : List (Option Nat)) : Prop where
  len : os.length = n
  low : ∀ c, some c ∈ os → c < n
  inj : ∀ (i j c : Nat), os[i]? = some (some c) → os[j]? = some (some c) → i = j
theorem Jn.set {n : Nat} {os : List (Option Nat)} (h : Jn n os) {i c : Nat} (hc : c < n) (hn : some c ∉ os) : Jn n (os.set i (some c)) where
  len := by rw [List.length_set]; exact h.len
  low := fun d hd => by
    rcases List.mem_or_eq_of_mem_set hd with z | z
    · exact h.low d z
    · cases z
      exact hc
  inj := fun a b d ha hb => by
    rw [List.getElem?_set] at ha hb
    by_cases e1 : i = a
    · rw [if_pos e1] at ha
      by_cases e2 : i = b
      · omega
      · rw [if_neg e2] at hb
        split at ha
        · cases ha
          exact absurd (List.mem_of_getElem? hb) hn
        · cases ha
    · rw [if_neg e1] at ha
      by_cases e2 : i = b
      · rw [if_pos e2] at hb
        split at hb
        · cases hb
          exact absurd (List.mem_of_getElem? ha) hn
        · cases hb
      · rw [if_neg e2] at hb
        exact h.inj a b d ha hb
theorem map_last {α : Type} (g : α → D) (xs : List α) (y : α) : (((xs ++ [y]).map g)[((xs ++ [y]).map g).length - 1]?) = some (g y) := by
  rw [List.length_map, List.length_append, List.length_singleton, Nat.add_sub_cancel, List.getElem?_map, List.getElem?_append_right (Nat.le_refl _), Nat.sub_self]
  rfl
theorem map_dropLast {α : Type} (g : α → D) (xs : List α) (y : α) : ((xs ++ [y]).map g).dropLast = xs.map g := by
  rw [List.map_append, List.map_singleton, List.dropLast_concat]
theorem ixN_nat {n i : Nat} (h : i < n) : ixN n (i : Int) = some i := by
  unfold ixN
  rw [if_pos (by omega), if_pos (by omega), Int.toNat_natCast]
theorem setPop_run {ρ : Env} {B B1 : Bg} {i j t : Nat} {fk : Ex} {ds es : List D} {y : D} (e0 : ρ.getD j none = some (.lst ds)) (e1 : ds[ds.length - 1]? = some y) (e2 : fk (ρ.set j (some (.lst ds.dropLast))) B = some (nN t, B1)) (e3 : (ρ.set j (some (.lst ds.dropLast))).getD i none = some (.lst es)) (ht : t < es.length) :
    sSetPop i j fk ρ B = some (.nx ((ρ.set j (some (.lst ds.dropLast))).set i (some (.lst (es.set t y)))), B1) := by
  unfold sSetPop
  rw [e0]
  show ((ds[ds.length - 1]?).bind _) = _
  rw [e1]
  show ((fk (ρ.set j (some (.lst ds.dropLast))) B).bind _) = _
  rw [e2]
  show (match (ρ.set j (some (.lst ds.dropLast))).getD i none, nN t with
    | some (.lst es), .int n => (ixN es.length n).map fun t => (Out.nx ((ρ.set j (some (.lst ds.dropLast))).set i (some (.lst (es.set t y)))), B1)
    | _, _ => none) = _
  rw [e3]
  show ((ixN es.length (t : Int)).map _) = _
  rw [ixN_nat ht]
  rfl
def gtBody : Sx := (sIf (xAnd (x2 gIs (x2 gIx (xV 3) (xV 4)) (xC .non)) (xAnd (x2 gNe (xV 2) (xLst xNil)) (x2 gGt (xCall m_law_take (xCons (xV 0) (xCons (xC (.int 3)) xNil))) (xC (.int 0))))) (sSetPop 3 2 (xV 4)) sNil)
structure Gt (n : Nat) (os : List (Option Nat)) (fr : List Nat) : Prop where
  j : Jn n os
  low : ∀ c ∈ fr, c < n
  nd : fr.Nodup
  off : ∀ c ∈ fr, some c ∉ os
theorem Gt.step {n i c : Nat} {os : List (Option Nat)} {fr : List Nat} (g : Gt n os (fr ++ [c])) : Gt n (os.set i (some c)) fr where
  j := g.j.set (g.low c (by simp)) (g.off c (by simp))
  low := fun d hd => g.low d (List.mem_append_left _ hd)
  nd := (List.nodup_append.mp g.nd).1
  off := fun d hd hm => by
    rcases List.mem_or_eq_of_mem_set hm with z | z
    · exact g.off d (List.mem_append_left _ hd) z
    · have z : d = c := Option.some.inj z
      exact (List.nodup_append.mp g.nd).2.2 d hd c (List.mem_singleton.mpr rfl) z
theorem gt_step (n : Nat) (o1 : D) (os : List (Option Nat)) (fr : List Nat) (g : Gt n os fr) (i : Nat) (hi : i < n) (B : Bg) (hB : Bag B) : ∃ (os' : List (Option Nat)) (fr' : List Nat) (B' : Bg),
    gtBody [some .bag, some o1, some (.lst (fr.map nN)), some (.lst (os.map oD)), some (nN i)] B = some (.nx [some .bag, some o1, some (.lst (fr'.map nN)), some (.lst (os'.map oD)), some (nN i)], B') ∧ Gt n os' fr' ∧ Bag B' := by
  have hil : i < os.length := by rw [g.j.len]; exact hi
  obtain ⟨o, ho⟩ : ∃ o, os[i]? = some o := ⟨os[i], List.getElem?_eq_getElem hil⟩
  have e1 : x2 gIs (x2 gIx (xV 3) (xV 4)) (xC .non) [some .bag, some o1, some (.lst (fr.map nN)), some (.lst (os.map oD)), some (nN i)] B = some (.bl (decide (o = none)), B) := x2_run (x2_run rfl rfl (ix_lst (map_get ho))) rfl (is_oD o)
  by_cases h1 : o = none
  · rw [decide_eq_true h1] at e1
    rcases List.eq_nil_or_concat fr with rfl | ⟨fr, c, rfl⟩
    · refine ⟨os, [], B, if_f (and_t e1 (and_f (x2_run (y := .lst []) rfl rfl ?_))) rfl, g, hB⟩
      exact (enc_lst enc_nN).ne (by decide) [] []
    · rw [List.concat_eq_append] at g e1 ⊢
      obtain ⟨v, B1, e2, hv, hB1⟩ := take_n B hB 3 (by decide) (by decide)
      have e3 : x2 gNe (xV 2) (xLst xNil) [some .bag, some o1, some (.lst ((fr ++ [c]).map nN)), some (.lst (os.map oD)), some (nN i)] B = some (.bl true, B) := by
        refine x2_run (y := .lst []) rfl rfl ?_
        refine ((enc_lst enc_nN).ne (by decide) (fr ++ [c]) []).trans ?_
        rw [decide_eq_false (by simp)]
        rfl
      have e4 : x2 gGt (xCall m_law_take (xCons (xV 0) (xCons (xC (.int 3)) xNil))) (xC (.int 0)) [some .bag, some o1, some (.lst ((fr ++ [c]).map nN)), some (.lst (os.map oD)), some (nN i)] B = some (.bl (decide (0 < v)), B1) := x2_run (call_run rfl e2) rfl (z_gt v 0)
      by_cases h2 : 0 < v
      · rw [decide_eq_true h2] at e4
        refine ⟨os.set i (some c), fr, B1, if_t (and_t e1 (and_t e3 e4)) ?_, g.step, hB1⟩
        refine (setPop_run (t := i) rfl (map_last nN fr c) rfl rfl (by rw [List.length_map]; exact hil)).trans ?_
        rw [map_dropLast, List.map_set]
        rfl
      · rw [decide_eq_false h2] at e4
        exact ⟨os, fr ++ [c], B1, if_f (and_t e1 (and_t e3 e4)) rfl, g, hB1⟩
  · rw [decide_eq_false h1] at e1
    exact ⟨os, fr, B, if_f (and_f e1) rfl, g, hB⟩
theorem gated_ok (n : Nat) (hn : n ≤ 100) (os : List (Option Nat)) (h : Jn n os) (B : Bg) (hB : Bag B) : ∃ (us : List (Option Nat)) (B' : Bg), m_law_gated [.bag, .lst (os.map oD)] B = some (.lst (us.map oD), B') ∧ Jn n us ∧ Bag B' := by
  have el : x1 gLen (xV 1) [some .bag, some (.lst (os.map oD)), none, none, none] B = some (nN n, B) := x1_run rfl (by
    show some (D.int ((os.map oD).length : Nat)) = _
    rw [List.length_map, h.len]
    rfl)
  have lc : xLC [4] (tN 4) (xRng1 (x1 gLen (xV 1))) (x2 (gInA false) (xV 4) (xV 1)) (xV 4) [some .bag, some (.lst (os.map oD)), none, none, none] B = some (.lst (((List.range n).filter fun c => !decide (some c ∈ os)).map nN), B) := by
    refine lc_run (rgT (by omega) el) (lc_fm nN (fun c => !decide (some c ∈ os)) nN (List.range n) fun c hc => ⟨_, rfl, x2_run rfl rfl (enc_oD.nL (by decide) (some c) os), fun _ => rfl⟩) ?_
    rw [List.length_map]
    refine Nat.le_trans (List.length_filter_le _ _) ?_
    rw [List.length_range]
    exact len_small (by omega)
  obtain ⟨fr, B1, e1, p1, hB1⟩ := mixed_aF nN B hB ((List.range n).filter fun c => !decide (some c ∈ os)) (by
    refine Nat.le_trans (List.length_filter_le _ _) ?_
    rw [List.length_range]
    omega)
  have g0 : Gt n os fr := ⟨h, fun c hc => by
      have := p1.mem_iff.mp hc
      exact List.mem_range.mp (List.mem_filter.mp this).1,
    p1.nodup_iff.mpr (List.nodup_range.filter _), fun c hc hm => by
      have := (List.mem_filter.mp (p1.mem_iff.mp hc)).2
      rw [decide_eq_true hm] at this
      cases this⟩
  obtain ⟨ρ', B', e, us, fr', r, rfl, hg, _, hB'⟩ := forGo_map (T := tN 4) (body := gtBody) nN
    (fun done rest ρ B => ∃ (us : List (Option Nat)) (fr : List Nat) (r : Option D), ρ = [some .bag, some (.lst (os.map oD)), some (.lst (fr.map nN)), some (.lst (us.map oD)), r] ∧ Gt n us fr ∧ (∀ i ∈ rest, i < n) ∧ Bag B)
    (fun done i rest ρ B ⟨us, fr, r, h3, h4, h6, h7⟩ => by
      subst h3
      obtain ⟨us', fr', B', e, g', hB'⟩ := gt_step n (.lst (os.map oD)) us fr h4 i (h6 i List.mem_cons_self) B h7
      exact ⟨_, _, B', rfl, e, us', fr', some (nN i), rfl, g', fun j hj => h6 j (List.mem_cons_of_mem _ hj), hB'⟩)
    (List.range n) [] [some .bag, some (.lst (os.map oD)), some (.lst (fr.map nN)), some (.lst (os.map oD)), none] B1 ⟨os, fr, none, rfl, g0, fun i hi => List.mem_range.mp hi, hB1⟩
  have el2 : x1 gLen (xV 1) [some .bag, some (.lst (os.map oD)), some (.lst (fr.map nN)), some (.lst (os.map oD)), none] B1 = some (nN n, B1) := x1_run rfl (by
    show some (D.int ((os.map oD).length : Nat)) = _
    rw [List.length_map, h.len]
    rfl)
  exact ⟨us, B', fn_run rfl (seq_nx (set_run (call_run (cons_run rfl (cons_run lc rfl)) e1)) (seq_nx (set_run (x1_run rfl rfl)) (seq_nx (for_run (rgT (by omega) el2) e) (ret_run rfl)))), hg.j, hB'⟩
theorem app_run {f : Ex} {ρ : Env} {B B1 : Bg} {i : Nat} {ds : List D} {d : D} (e : f ρ B = some (d, B1)) (e2 : ρ.getD i none = some (.lst ds)) (hl : ds.length < 1000) : sMut i gApp f ρ B = some (.nx (ρ.set i (some (.lst (ds ++ [d])))), B1) := mut_run e e2 (if_pos (Nat.lt_of_lt_of_le hl (len_small (by omega))))
theorem gExt_run {ds es : List D} (h : ds.length + es.length ≤ 1000000) : gExt ds (.lst es) = some (ds ++ es) := if_pos (len_small h)
theorem rep_gen {n : Int} (ds : List D) (h : n < 2 ^ 62 ∧ -(2 ^ 62) ≤ n ∧ ds.length * n.toNat ≤ sizeLine) : gRep (.lst ds) (.int n) = some (.lst (List.replicate n.toNat ds).flatten) := if_pos h
theorem top_of : ∀ (ps : List (Int × Int)), ps ≠ [] → ∃ p ∈ ps, ∀ q ∈ ps, q.1 ≤ p.1
  | [p], _ => ⟨p, List.mem_singleton.mpr rfl, fun q hq => by rw [List.mem_singleton.mp hq]; exact Int.le_refl _⟩
  | p :: p' :: ps, _ => by
    obtain ⟨m, hm, h⟩ := top_of (p' :: ps) (by simp)
    by_cases c : m.1 ≤ p.1
    · refine ⟨p, List.mem_cons_self, fun q hq => ?_⟩
      rcases List.mem_cons.mp hq with rfl | hq
      · exact Int.le_refl _
      · exact Int.le_trans (h q hq) c
    · refine ⟨m, List.mem_cons_of_mem _ hm, fun q hq => ?_⟩
      rcases List.mem_cons.mp hq with rfl | hq
      · omega
      · exact h q hq
theorem free_near (ps : List (Int × Int)) (h : ps ≠ []) : ∃ p ∈ ps, (p.1 + 1, p.2) ∉ ps := by
  obtain ⟨p, hp, ht⟩ := top_of ps h
  exact ⟨p, hp, fun z => by have := ht _ z; simp only at this; omega⟩
section
variable {r0 r1 r2 r4 r5 r6 r7 r8 r9 r10 : Option D}
def jnE : Ex := (xLC [10] (tN 10) (xIt (xTup (xCons (xTup (xCons (x2 gAdd (xV 6) (xC (.int 1))) (xCons (xV 7) xNil))) (xCons (xTup (xCons (x2 gSub (xV 6) (xC (.int 1))) (xCons (xV 7) xNil))) (xCons (xTup (xCons (xV 6) (xCons (x2 gAdd (xV 7) (xC (.int 1))) xNil))) (xCons (xTup (xCons (xV 6) (xCons (x2 gSub (xV 7) (xC (.int 1))) xNil))) xNil)))))) (x2 (gInA false) (xV 10) (xV 3)) (xV 10))
def nb4 (p : Int × Int) : List (Int × Int) := [(p.1 + 1, p.2), (p.1 - 1, p.2), (p.1, p.2 + 1), (p.1, p.2 - 1)]
theorem jn_near (ps : List (Int × Int)) (p : Int × Int) (B : Bg) : jnE [r0, r1, r2, some (.lst (ps.map zD)), r4, r5, some (.int p.1), some (.int p.2), r8, r9, r10] B = some (.lst (((nb4 p).filter fun q => !decide (q ∈ ps)).map zD), B) := by
  have it : xIt (xTup (xCons (xTup (xCons (x2 gAdd (xV 6) (xC (.int 1))) (xCons (xV 7) xNil))) (xCons (xTup (xCons (x2 gSub (xV 6) (xC (.int 1))) (xCons (xV 7) xNil))) (xCons (xTup (xCons (xV 6) (xCons (x2 gAdd (xV 7) (xC (.int 1))) xNil))) (xCons (xTup (xCons (xV 6) (xCons (x2 gSub (xV 7) (xC (.int 1))) xNil))) xNil))))) [r0, r1, r2, some (.lst (ps.map zD)), r4, r5, some (.int p.1), some (.int p.2), r8, r9, r10] B = some ((nb4 p).map zD, B) := rfl
  refine lc_run it (lc_fm zD (fun q => !decide (q ∈ ps)) zD (nb4 p) fun q hq => ⟨_, rfl, x2_run rfl rfl (enc_z.nL (by decide) q ps), fun _ => rfl⟩) ?_
  rw [List.length_map]
  refine Nat.le_trans (List.length_filter_le _ _) ?_
  exact len_small (by show 4 ≤ _; decide)
def jnB : Sx := (sSeq (sSet 5 (xLst xNil)) (sSeq (sFor (tT (tsCons (tN 6) (tsCons (tN 7) tsNil))) (xIt (xV 3)) (sMut 5 gExt jnE)) (sMut 3 gApp (xCall m_law_some (xCons (xV 0) (xCons (xV 5) xNil))))))
theorem jn_step (ps : List (Int × Int)) (hl : ps.length ≤ 40) (h0 : ps ≠ []) (hn : ps.Nodup) (B : Bg) (hB : Bag B) : ∃ (p : Int × Int) (t5 t6 t7 : Option D) (B' : Bg), jnB [some .bag, r1, r2, some (.lst (ps.map zD)), r4, r5, r6, r7, r8, r9, r10] B = some (.nx [some .bag, r1, r2, some (.lst ((ps ++ [p]).map zD)), r4, t5, t6, t7, r8, r9, r10], B') ∧ p ∉ ps ∧ Bag B' := by
  obtain ⟨ρ', B1, e, qs, t6, t7, rfl, hq1, hq2, hq3, hq4, hBe⟩ := forGo_map (T := tT (tsCons (tN 6) (tsCons (tN 7) tsNil))) (body := sMut 5 gExt jnE) zD
    (fun done rest ρ B' => ∃ (qs : List (Int × Int)) (t6 t7 : Option D), ρ = [some .bag, r1, r2, some (.lst (ps.map zD)), r4, some (.lst (qs.map zD)), t6, t7, r8, r9, r10] ∧ qs.length ≤ 4 * done.length ∧ (∀ q ∈ qs, q ∉ ps) ∧ done.length + rest.length ≤ 40 ∧ (∀ p ∈ done, (p.1 + 1, p.2) ∉ ps → (p.1 + 1, p.2) ∈ qs) ∧ B' = B)
    (fun done p rest ρ B' ⟨qs, t6, t7, h3, h4, h6, h7, h8, h9⟩ => by
      subst h3 h9
      rw [List.length_cons] at h7
      have fl : ((nb4 p).filter fun q => !decide (q ∈ ps)).length ≤ 4 := List.length_filter_le _ _
      refine ⟨_, _, B', rfl, mut_run (jn_near ps p B') rfl (gExt_run (by rw [List.length_map, List.length_map]; omega)), qs ++ ((nb4 p).filter fun q => !decide (q ∈ ps)), some (.int p.1), some (.int p.2), ?_, ?_, ?_, ?_, ?_, rfl⟩
      · rw [List.map_append]
        rfl
      · rw [List.length_append, List.length_append, List.length_singleton]
        omega
      · intro q hq
        rcases List.mem_append.mp hq with hq | hq
        · exact h6 q hq
        · have := (List.mem_filter.mp hq).2
          intro hm
          rw [decide_eq_true hm] at this
          cases this
      · rw [List.length_append, List.length_singleton]
        omega
      · intro p' hp' hf
        rcases List.mem_append.mp hp' with hp' | hp'
        · exact List.mem_append_left _ (h8 p' hp' hf)
        · rw [List.mem_singleton.mp hp'] at hf ⊢
          refine List.mem_append_right _ (List.mem_filter.mpr ⟨List.mem_cons_self, ?_⟩)
          rw [decide_eq_false hf]
          rfl)
    ps [] [some .bag, r1, r2, some (.lst (ps.map zD)), r4, some (.lst []), r6, r7, r8, r9, r10] B ⟨[], r6, r7, rfl, Nat.zero_le _, fun q h => (nomatch h), by rw [List.length_nil]; omega, fun q h => (nomatch h), rfl⟩
  obtain rfl : B = B1 := hBe.symm
  rw [List.nil_append] at hq1 hq3
  obtain ⟨p0, hp0, hf0⟩ := free_near ps h0
  have ne : qs.map zD ≠ [] := by
    intro z
    have := hq4 p0 (by rw [List.nil_append]; exact hp0) hf0
    rw [List.map_eq_nil_iff.mp z] at this
    cases this
  obtain ⟨i, d, B2, e2, hd, hB2⟩ := some_lst B hB (qs.map zD) ne (by rw [List.length_map]; omega)
  obtain ⟨q, hq, rfl⟩ := List.mem_map.mp (List.mem_of_getElem? hd)
  refine ⟨q, some (.lst (qs.map zD)), t6, t7, B2, seq_nx (set_run rfl) (seq_nx (for_run (it_run rfl rfl) e) ((app_run (call_run rfl e2) rfl (by rw [List.length_map]; omega)).trans ?_)), hq2 q hq, hB2⟩
  rw [List.map_append]
  rfl
def Sp (ps : List (Int × Int)) (v : Int × Int) (os : List (Option Nat)) : Prop := os.length = ps.length ∧ ∀ i j : Nat, os[i]? = some (some j) → ∃ p, ps[i]? = some p ∧ ps[j]? = some (p.1 + v.1, p.2 + v.2)
theorem Sp.jn {ps : List (Int × Int)} {v : Int × Int} {os : List (Option Nat)} (h : Sp ps v os) (nd : ps.Nodup) : Jn ps.length os where
  len := h.1
  low := fun c hc => by
    obtain ⟨i, hi⟩ := List.getElem?_of_mem hc
    obtain ⟨p, _, h2⟩ := h.2 i c hi
    exact (List.getElem?_eq_some_iff.mp h2).1
  inj := fun i j c hi hj => by
    obtain ⟨p, h1, h2⟩ := h.2 i c hi
    obtain ⟨q, h3, h4⟩ := h.2 j c hj
    rw [h2] at h4
    have e : p = q := by
      have := Option.some.inj h4
      rw [Prod.mk.injEq] at this
      exact Prod.ext (by omega) (by omega)
    subst e
    rw [← h3] at h1
    exact (List.getElem?_inj (List.getElem?_eq_some_iff.mp (h3 ▸ h1)).1 nd).mp h1
theorem Sp.set {ps : List (Int × Int)} {v : Int × Int} {os : List (Option Nat)} (h : Sp ps v os) {i j : Nat} {p : Int × Int} (hi : ps[i]? = some p) (hj : ps[j]? = some (p.1 + v.1, p.2 + v.2)) : Sp ps v (os.set i (some j)) := by
  refine ⟨by rw [List.length_set]; exact h.1, fun a b hab => ?_⟩
  rw [List.getElem?_set] at hab
  by_cases e : i = a
  · subst e
    rw [if_pos rfl] at hab
    split at hab
    · cases hab
      exact ⟨p, hi, hj⟩
    · cases hab
  · rw [if_neg e] at hab
    exact h.2 a b hab
theorem Sp.none (ps : List (Int × Int)) (v : Int × Int) : Sp ps v (List.replicate ps.length none) := by
  refine ⟨List.length_replicate .., fun i j h => ?_⟩
  have := List.mem_of_getElem? h
  cases (List.mem_replicate.mp this).2
def jnR : Sx := (sIf (xAnd (x2 gLt (xV 2) (xC (.int 3))) (xAnd (x2 (gInA true) (xTup (xCons (x2 gAdd (xV 6) (xC (.int 1))) (xCons (xV 7) xNil))) (xV 3)) (x2 gGt (xCall m_law_take (xCons (xV 0) (xCons (xC (.int 5)) xNil))) (xC (.int 0))))) (sSetI 8 (xV 4) (x2 gIdx (xV 3) (xTup (xCons (x2 gAdd (xV 6) (xC (.int 1))) (xCons (xV 7) xNil))))) sNil)
def jnU : Sx := (sIf (xAnd (x2 gLt (xV 2) (xC (.int 3))) (xAnd (x2 (gInA true) (xTup (xCons (xV 6) (xCons (x2 gAdd (xV 7) (xC (.int 1))) xNil))) (xV 3)) (x2 gGt (xCall m_law_take (xCons (xV 0) (xCons (xC (.int 5)) xNil))) (xC (.int 0))))) (sSetI 9 (xV 4) (x2 gIdx (xV 3) (xTup (xCons (xV 6) (xCons (x2 gAdd (xV 7) (xC (.int 1))) xNil))))) sNil)
theorem gSetI_lst {ds : List D} {j : Nat} (h : j < ds.length) (d : D) : gSetI (.lst ds) (nN j) d = some (.lst (ds.set j d)) := by
  show ((ixN ds.length (j : Int)).map fun j => D.lst (ds.set j d)) = _
  rw [ixN_nat h]
  rfl
theorem jn_r (k : Nat) (ps : List (Int × Int)) (os : List (Option Nat)) (h : Sp ps (1, 0) os) (i : Nat) (p : Int × Int) (hi : ps[i]? = some p) (B : Bg) (hB : Bag B) : ∃ (us : List (Option Nat)) (B' : Bg),
    jnR [some .bag, r1, some (nN k), some (.lst (ps.map zD)), some (nN i), r5, some (.int p.1), some (.int p.2), some (.lst (os.map oD)), r9, r10] B = some (.nx [some .bag, r1, some (nN k), some (.lst (ps.map zD)), some (nN i), r5, some (.int p.1), some (.int p.2), some (.lst (us.map oD)), r9, r10], B') ∧ Sp ps (1, 0) us ∧ Bag B' := by
  have e1 : x2 gLt (xV 2) (xC (.int 3)) [some .bag, r1, some (nN k), some (.lst (ps.map zD)), some (nN i), r5, some (.int p.1), some (.int p.2), some (.lst (os.map oD)), r9, r10] B = some (.bl (decide (k < 3)), B) := x2_run rfl rfl (z_lt k 3)
  by_cases c1 : k < 3
  · rw [decide_eq_true c1] at e1
    have e2 : x2 (gInA true) (xTup (xCons (x2 gAdd (xV 6) (xC (.int 1))) (xCons (xV 7) xNil))) (xV 3) [some .bag, r1, some (nN k), some (.lst (ps.map zD)), some (nN i), r5, some (.int p.1), some (.int p.2), some (.lst (os.map oD)), r9, r10] B = some (.bl (decide ((p.1 + 1, p.2) ∈ ps)), B) := x2_run (x := zD (p.1 + 1, p.2)) rfl rfl (enc_z.yL (by decide) _ ps)
    by_cases c2 : (p.1 + 1, p.2) ∈ ps
    · rw [decide_eq_true c2] at e2
      obtain ⟨v, B1, e3, hv, hB1⟩ := take_n B hB 5 (by decide) (by decide)
      have e4 : x2 gGt (xCall m_law_take (xCons (xV 0) (xCons (xC (.int 5)) xNil))) (xC (.int 0)) [some .bag, r1, some (nN k), some (.lst (ps.map zD)), some (nN i), r5, some (.int p.1), some (.int p.2), some (.lst (os.map oD)), r9, r10] B = some (.bl (decide (0 < v)), B1) := x2_run (call_run rfl e3) rfl (z_gt v 0)
      by_cases c3 : 0 < v
      · rw [decide_eq_true c3] at e4
        refine ⟨os.set i (some (ixOf (p.1 + 1, p.2) ps)), B1, if_t (and_t e1 (and_t e2 e4)) ((setI_run (x2_run (y := zD (p.1 + 1, p.2)) rfl rfl (enc_z.idxL (by decide) c2)) rfl rfl (gSetI_lst ?_ _)).trans ?_), h.set hi ?_, hB1⟩
        · rw [List.length_map, h.1]
          exact (List.getElem?_eq_some_iff.mp hi).1
        · rw [List.map_set]
          rfl
        · rw [ixOf_get c2, Int.add_zero]
      · rw [decide_eq_false c3] at e4
        exact ⟨os, B1, if_f (and_t e1 (and_t e2 e4)) rfl, h, hB1⟩
    · rw [decide_eq_false c2] at e2
      exact ⟨os, B, if_f (and_t e1 (and_f e2)) rfl, h, hB⟩
  · rw [decide_eq_false c1] at e1
    exact ⟨os, B, if_f (and_f e1) rfl, h, hB⟩
theorem jn_u (k : Nat) (ps : List (Int × Int)) (os : List (Option Nat)) (h : Sp ps (0, 1) os) (i : Nat) (p : Int × Int) (hi : ps[i]? = some p) (B : Bg) (hB : Bag B) : ∃ (us : List (Option Nat)) (B' : Bg),
    jnU [some .bag, r1, some (nN k), some (.lst (ps.map zD)), some (nN i), r5, some (.int p.1), some (.int p.2), r8, some (.lst (os.map oD)), r10] B = some (.nx [some .bag, r1, some (nN k), some (.lst (ps.map zD)), some (nN i), r5, some (.int p.1), some (.int p.2), r8, some (.lst (us.map oD)), r10], B') ∧ Sp ps (0, 1) us ∧ Bag B' := by
  have e1 : x2 gLt (xV 2) (xC (.int 3)) [some .bag, r1, some (nN k), some (.lst (ps.map zD)), some (nN i), r5, some (.int p.1), some (.int p.2), r8, some (.lst (os.map oD)), r10] B = some (.bl (decide (k < 3)), B) := x2_run rfl rfl (z_lt k 3)
  by_cases c1 : k < 3
  · rw [decide_eq_true c1] at e1
    have e2 : x2 (gInA true) (xTup (xCons (xV 6) (xCons (x2 gAdd (xV 7) (xC (.int 1))) xNil))) (xV 3) [some .bag, r1, some (nN k), some (.lst (ps.map zD)), some (nN i), r5, some (.int p.1), some (.int p.2), r8, some (.lst (os.map oD)), r10] B = some (.bl (decide ((p.1, p.2 + 1) ∈ ps)), B) := x2_run (x := zD (p.1, p.2 + 1)) rfl rfl (enc_z.yL (by decide) _ ps)
    by_cases c2 : (p.1, p.2 + 1) ∈ ps
    · rw [decide_eq_true c2] at e2
      obtain ⟨v, B1, e3, hv, hB1⟩ := take_n B hB 5 (by decide) (by decide)
      have e4 : x2 gGt (xCall m_law_take (xCons (xV 0) (xCons (xC (.int 5)) xNil))) (xC (.int 0)) [some .bag, r1, some (nN k), some (.lst (ps.map zD)), some (nN i), r5, some (.int p.1), some (.int p.2), r8, some (.lst (os.map oD)), r10] B = some (.bl (decide (0 < v)), B1) := x2_run (call_run rfl e3) rfl (z_gt v 0)
      by_cases c3 : 0 < v
      · rw [decide_eq_true c3] at e4
        refine ⟨os.set i (some (ixOf (p.1, p.2 + 1) ps)), B1, if_t (and_t e1 (and_t e2 e4)) ((setI_run (x2_run (y := zD (p.1, p.2 + 1)) rfl rfl (enc_z.idxL (by decide) c2)) rfl rfl (gSetI_lst ?_ _)).trans ?_), h.set hi ?_, hB1⟩
        · rw [List.length_map, h.1]
          exact (List.getElem?_eq_some_iff.mp hi).1
        · rw [List.map_set]
          rfl
        · rw [ixOf_get c2, Int.add_zero]
      · rw [decide_eq_false c3] at e4
        exact ⟨os, B1, if_f (and_t e1 (and_t e2 e4)) rfl, h, hB1⟩
    · rw [decide_eq_false c2] at e2
      exact ⟨os, B, if_f (and_t e1 (and_f e2)) rfl, h, hB⟩
  · rw [decide_eq_false c1] at e1
    exact ⟨os, B, if_f (and_f e1) rfl, h, hB⟩
end
theorem joins_ok (n : Nat) (h1 : 1 ≤ n) (hn : n ≤ 30) (B : Bg) (hB : Bag B) : ∃ (rs us : List (Option Nat)) (B' : Bg), m_law_joins [.bag, nN n] B = some (.tup [.tn (rs.map oD), .tn (us.map oD)], B') ∧ Jn n rs ∧ Jn n us ∧ Bag B' := by
  obtain ⟨k, B1, e1, hk, hB1⟩ := take_n B hB 4 (by decide) (by decide)
  -- the spots
  obtain ⟨ρ2, B2, e2, ps, t4, t5, t6, t7, rfl, l2, nd2, hB2⟩ := forGo_map (T := tN 4) (body := jnB) nN
    (fun done rest ρ B => ∃ (ps : List (Int × Int)) (t4 t5 t6 t7 : Option D), ρ = [some .bag, some (nN n), some (nN k), some (.lst (ps.map zD)), t4, t5, t6, t7, none, none, none] ∧ ps.length = 1 + done.length ∧ ps.Nodup ∧ ps.length + rest.length = n ∧ Bag B)
    (fun done c rest ρ B ⟨ps, t4, t5, t6, t7, h3, h4, h5, h6, h7⟩ => by
      subst h3
      rw [List.length_cons] at h6
      obtain ⟨p, s5, s6, s7, B', e, hp, hB'⟩ := jn_step (r1 := some (nN n)) (r2 := some (nN k)) (r4 := some (nN c)) (r5 := t5) (r6 := t6) (r7 := t7) (r8 := none) (r9 := none) (r10 := none) ps (by omega) (fun z => by rw [z, List.length_nil] at h4; omega) h5 B h7
      refine ⟨_, _, B', rfl, e, ps ++ [p], some (nN c), s5, s6, s7, rfl, ?_, ?_, ?_, hB'⟩
      · rw [List.length_append, List.length_append, List.length_singleton, List.length_singleton]
        omega
      · exact List.nodup_append.mpr ⟨h5, by simp, fun a ha b hb z => hp (by rw [List.mem_singleton] at hb; rw [← hb, ← z]; exact ha)⟩
      · rw [List.length_append, List.length_singleton]
        omega)
    (List.range' 1 (n - 1)) [] [some .bag, some (nN n), some (nN k), some (.lst ([((0 : Int), (0 : Int))].map zD)), none, none, none, none, none, none, none] B1 ⟨[(0, 0)], none, none, none, none, rfl, rfl, by simp, by rw [List.length_range', List.length_singleton]; omega, hB1⟩
  obtain ⟨hn2, hB2⟩ := hB2
  rw [List.length_nil, Nat.add_zero] at hn2
  -- mixed
  obtain ⟨qs, B3, e3, p3, hB3⟩ := mixed_a zD B2 hB2 ps (by omega)
  have nd3 := p3.nodup_iff.mpr nd2
  have l3 : qs.length = n := by rw [p3.length_eq]; exact hn2
  have rp : gRep (.lst [.non]) (nN n) = some (.lst ((List.replicate n none).map oD)) := by
    refine (rep_gen (n := (n : Int)) [.non] ?_).trans ?_
    · refine ⟨by omega, by omega, ?_⟩
      rw [Int.toNat_natCast, List.length_singleton]
      exact len_small (by omega)
    · rw [Int.toNat_natCast, List.map_replicate]
      congr 2
      have : ∀ m : Nat, (List.replicate m [D.non]).flatten = List.replicate m D.non := by
        intro m
        induction m with
        | zero => rfl
        | succ m ih => rw [List.replicate_succ, List.flatten_cons, ih, List.replicate_succ]; rfl
      exact this n
  have s0 := Sp.none qs (1, 0)
  have s1 := Sp.none qs (0, 1)
  rw [l3] at s0 s1
  obtain ⟨ρ4, B4, e4, rs, us, u4, u6, u7, rfl, a1, a2, _, hB4⟩ := forGo_map (T := tT (tsCons (tN 4) (tsCons (tT (tsCons (tN 6) (tsCons (tN 7) tsNil))) tsNil))) (body := sSeq jnR jnU) (fun q : (Int × Int) × Nat => D.tup [nN q.2, zD q.1])
    (fun done rest ρ B => ∃ (rs us : List (Option Nat)) (u4 u6 u7 : Option D), ρ = [some .bag, some (nN n), some (nN k), some (.lst (qs.map zD)), u4, t5, u6, u7, some (.lst (rs.map oD)), some (.lst (us.map oD)), none] ∧ Sp qs (1, 0) rs ∧ Sp qs (0, 1) us ∧ (∀ q ∈ rest, qs[q.2]? = some q.1) ∧ Bag B)
    (fun done q rest ρ B ⟨rs, us, u4, u6, u7, h3, h4, h5, h6, h7⟩ => by
      subst h3
      obtain ⟨rs', B', e, h4', hB'⟩ := jn_r (r1 := some (nN n)) (r5 := t5) (r9 := some (.lst (us.map oD))) (r10 := none) k qs rs h4 q.2 q.1 (h6 q List.mem_cons_self) B h7
      obtain ⟨us', B'', e', h5', hB''⟩ := jn_u (r1 := some (nN n)) (r5 := t5) (r8 := some (.lst (rs'.map oD))) (r10 := none) k qs us h5 q.2 q.1 (h6 q List.mem_cons_self) B' hB'
      exact ⟨_, _, B'', rfl, seq_nx e e', rs', us', _, _, _, rfl, h4', h5', fun x hx => h6 x (List.mem_cons_of_mem _ hx), hB''⟩)
    qs.zipIdx [] [some .bag, some (nN n), some (nN k), some (.lst (qs.map zD)), t4, t5, t6, t7, some (.lst ((List.replicate n none).map oD)), some (.lst ((List.replicate n none).map oD)), none] B3 ⟨_, _, t4, t6, t7, rfl, s0, s1, fun q hq => List.mem_zipIdx_iff_getElem?.mp hq, hB3⟩
  have j1 := a1.jn nd3
  have j2 := a2.jn nd3
  rw [l3] at j1 j2
  have en : xEnum (xV 3) [some .bag, some (nN n), some (nN k), some (.lst (qs.map zD)), t4, t5, t6, t7, some (.lst ((List.replicate n none).map oD)), some (.lst ((List.replicate n none).map oD)), none] B3 = some (qs.zipIdx.map fun q : (Int × Int) × Nat => D.tup [nN q.2, zD q.1], B3) := by
    show some (((qs.map zD).zipIdx.map fun q => D.tup [.int (q.2 : Nat), q.1]), B3) = _
    rw [List.zipIdx_map, List.map_map]
    rfl
  have fin : ∃ (rs' us' : List (Option Nat)) (B5 : Bg), sIf (x2 gGt (xV 2) (xC (.int 0))) (sPar [8, 9] (xCons (xCall m_law_gated (xCons (xV 0) (xCons (xV 8) xNil))) (xCons (xCall m_law_gated (xCons (xV 0) (xCons (xV 9) xNil))) xNil))) sNil [some .bag, some (nN n), some (nN k), some (.lst (qs.map zD)), u4, t5, u6, u7, some (.lst (rs.map oD)), some (.lst (us.map oD)), none] B4 =
      some (.nx [some .bag, some (nN n), some (nN k), some (.lst (qs.map zD)), u4, t5, u6, u7, some (.lst (rs'.map oD)), some (.lst (us'.map oD)), none], B5) ∧ Jn n rs' ∧ Jn n us' ∧ Bag B5 := by
    have c0 : x2 gGt (xV 2) (xC (.int 0)) [some .bag, some (nN n), some (nN k), some (.lst (qs.map zD)), u4, t5, u6, u7, some (.lst (rs.map oD)), some (.lst (us.map oD)), none] B4 = some (.bl (decide (0 < k)), B4) := x2_run rfl rfl (z_gt k 0)
    by_cases c : 0 < k
    · rw [decide_eq_true c] at c0
      obtain ⟨rs', C1, f1, g1, hC1⟩ := gated_ok n (by omega) rs j1 B4 hB4
      obtain ⟨us', C2, f2, g2, hC2⟩ := gated_ok n (by omega) us j2 C1 hC1
      exact ⟨rs', us', C2, if_t c0 (par_run (cons_run (call_run rfl f1) (cons_run (call_run rfl f2) rfl))), g1, g2, hC2⟩
    · rw [decide_eq_false c] at c0
      exact ⟨rs, us, B4, if_f c0 rfl, j1, j2, hB4⟩
  obtain ⟨rs', us', B5, e5, g1, g2, hB5⟩ := fin
  exact ⟨rs', us', B5, fn_run rfl (seq_nx (par_run (cons_run (call_run rfl e1) (cons_run rfl rfl))) (seq_nx (for_run (rgT2 (i := 1) (j := n) (by decide) (by omega) rfl rfl) e2) (seq_nx (set_run (call_run rfl e3)) (seq_nx (par_run (cons_run (x2_run rfl rfl rp) (cons_run (x2_run rfl rfl rp) rfl))) (seq_nx (for_run en e4) (seq_nx e5 (ret_run (tup_run (cons_run (x1_run rfl rfl) (cons_run (x1_run rfl rfl) rfl)))))))))), g1, g2, hB5⟩
open PySem.W NS
theorem cut_map {α : Type} (g : α → D) (xs : List α) (lo hi : Option Int) : cutL (xs.map g) lo hi = (cutL xs lo hi).map g := by
  unfold cutL
  rw [List.length_map, List.map_take, List.map_drop]
theorem cut_sub {α : Type} (xs : List α) (lo hi : Option Int) : (cutL xs lo hi).Sublist xs := (List.take_sublist _ _).trans (List.drop_sublist _ _)
theorem sl_to {fa fk : Ex} {ρ : Env} {B B1 B2 : Bg} {x : D} {k : Int} {d : D} (e : fa ρ B = some (x, B1)) (e2 : fk ρ B1 = some (.int k, B2)) (e3 : gSl x none (some k) = some d) : xSl gSl fa xPn (xPs fk) ρ B = some (d, B2) := by
  unfold xSl
  rw [e]
  show ((xPs fk ρ B1).bind fun h => (gSl x none h.1).map fun d => (d, h.2)) = _
  unfold xPs
  rw [e2]
  show ((gSl x none (some k)).map fun d => (d, B2)) = _
  rw [e3]
  rfl
theorem sort_perm (es : List D) (h : okSort es = true) : ∃ fs, gSortD (.lst es) = some (.lst fs) ∧ fs.Perm es := ⟨es.mergeSort leDD, if_pos h, List.mergeSort_perm _ _⟩
theorem okSort_of {es : List D} (h1 : ∀ d ∈ es, d.plain = true ∧ d.py.depth ≤ 40 ∧ consT d.py = true) (h2 : ∀ a ∈ es, ∀ b ∈ es, alike a.py b.py = true) : okSort es = true := by
  unfold okSort
  rw [Bool.and_eq_true, Bool.and_eq_true, Bool.or_eq_true]
  refine ⟨⟨?_, ?_⟩, .inl ?_⟩
  · rw [List.all_eq_true]
    intro d hd
    rw [(h1 d hd).1, decide_eq_true (h1 d hd).2.1]
    rfl
  · rw [List.all_eq_true]
    intro a ha
    rw [List.all_eq_true]
    exact fun b hb => h2 a ha b hb
  · rw [List.all_eq_true]
    exact fun d hd => (h1 d hd).2.2
theorem sort_a {α : Type} (g : α → D) (as : List α) (h1 : ∀ d ∈ as, (g d).plain = true ∧ (g d).py.depth ≤ 40 ∧ consT (g d).py = true) (h2 : ∀ a ∈ as, ∀ b ∈ as, alike (g a).py (g b).py = true) : ∃ bs : List α, gSortD (.lst (as.map g)) = some (.lst (bs.map g)) ∧ bs.Perm as := by
  obtain ⟨fs, e, p⟩ := sort_perm (as.map g) (okSort_of (fun d hd => by
    obtain ⟨a, ha, rfl⟩ := List.mem_map.mp hd
    exact h1 a ha) fun a ha b hb => by
    obtain ⟨x, hx, rfl⟩ := List.mem_map.mp ha
    obtain ⟨y, hy, rfl⟩ := List.mem_map.mp hb
    exact h2 x hx y hy)
  obtain ⟨bs, rfl, p2⟩ := perm_map p
  exact ⟨bs, e, p2⟩
theorem alike_ns : ∀ xs ys : List Nat, alikeAll (pyL (xs.map nN)) (pyL (ys.map nN)) = true
  | [], _ => by
    show alikeAll [] _ = true
    cases pyL _ <;> rfl
  | x :: xs, [] => rfl
  | x :: xs, y :: ys => by
    show (alike (.int _) (.int _) && alikeAll (pyL (xs.map nN)) (pyL (ys.map nN))) = true
    rw [alike_ns xs ys]
    rfl
theorem alike_ed (e f : Ed) : alike (edD e).py (edD f).py = true := by
  obtain ⟨s, c⟩ := e
  obtain ⟨t, d⟩ := f
  cases s <;> cases t <;> rfl
theorem gAdd_lst {a b : List D} (h : a.length + b.length ≤ 1000000) : gAdd (.lst a) (.lst b) = some (.lst (a ++ b)) := if_pos (len_small h)
theorem gAdd_tup {a b : List D} (h : a.length + b.length ≤ 1000000) : gAdd (.tup a) (.tup b) = some (.tup (a ++ b)) := if_pos (len_small h)
def edgesOf (n : Nat) (rs us : List (Option Nat)) : List Ed :=
  (((((List.range n).filter fun c => !decide (some c ∈ us)).map fun c => (Sd.down, c)) ++ ((List.range n).filter fun c => !decide (some c ∈ rs)).map fun c => (Sd.left, c)) ++ (List.range n).map fun c => (Sd.right, c)) ++ (List.range n).map fun c => (Sd.up, c)
theorem edgesOf_mem {n : Nat} {rs us : List (Option Nat)} {e : Ed} : e ∈ edgesOf n rs us ↔ e.2 < n ∧ (e.1 = .down → some e.2 ∉ us) ∧ (e.1 = .left → some e.2 ∉ rs) := by
  obtain ⟨s, c⟩ := e
  unfold edgesOf
  cases s <;> simp
theorem nodup_map_pair {s : Sd} {cs : List Nat} (h : cs.Nodup) : (cs.map fun c => (s, c)).Nodup := List.Pairwise.map _ (fun a b h z => h (Prod.mk.inj z).2) h
theorem edgesOf_nodup (n : Nat) (rs us : List (Option Nat)) : (edgesOf n rs us).Nodup := by
  unfold edgesOf
  refine List.nodup_append.mpr ⟨List.nodup_append.mpr ⟨List.nodup_append.mpr ⟨nodup_map_pair (List.nodup_range.filter _), nodup_map_pair (List.nodup_range.filter _), ?_⟩, nodup_map_pair List.nodup_range, ?_⟩, nodup_map_pair List.nodup_range, ?_⟩
  · intro a ha b hb z
    obtain ⟨x, _, rfl⟩ := List.mem_map.mp ha
    obtain ⟨y, _, rfl⟩ := List.mem_map.mp hb
    cases z
  · intro a ha b hb z
    obtain ⟨y, _, rfl⟩ := List.mem_map.mp hb
    rcases List.mem_append.mp ha with ha | ha
    · obtain ⟨x, _, rfl⟩ := List.mem_map.mp ha
      cases z
    · obtain ⟨x, _, rfl⟩ := List.mem_map.mp ha
      cases z
  · intro a ha b hb z
    obtain ⟨y, _, rfl⟩ := List.mem_map.mp hb
    rcases List.mem_append.mp ha with ha | ha
    · rcases List.mem_append.mp ha with ha | ha
      · obtain ⟨x, _, rfl⟩ := List.mem_map.mp ha
        cases z
      · obtain ⟨x, _, rfl⟩ := List.mem_map.mp ha
        cases z
    · obtain ⟨x, _, rfl⟩ := List.mem_map.mp ha
      cases z
theorem filter_len {α : Type} (q : α → Bool) (xs : List α) : (xs.filter q).length ≤ xs.length := List.length_filter_le _ _
theorem edgesOf_len (n : Nat) (rs us : List (Option Nat)) : (edgesOf n rs us).length ≤ 4 * n := by
  unfold edgesOf
  have h1 := filter_len (fun c => !decide (some c ∈ us)) (List.range n)
  have h2 := filter_len (fun c => !decide (some c ∈ rs)) (List.range n)
  rw [List.length_range] at h1 h2
  simp only [List.length_append, List.length_map, List.length_range]
  omega
section
variable {r0 r1 r3 r4 : Option D}
theorem edges_ok (n : Nat) (hn : n ≤ 1000) (rs us : List (Option Nat)) (hr : rs.length = n) (B : Bg) : m_law_edges_of [.tn (rs.map oD), .tn (us.map oD)] B = some (.lst ((edgesOf n rs us).map edD), B) := by
  have hz : ∀ m : Nat, m ≤ 1000 → m ≤ sizeLine := fun m h => len_small (by omega)
  have lcA : ∀ (s : Sd) (os : List (Option Nat)) (i : Nat) (ρ : Env), ρ.length = 5 → (hi : i ≠ 4) → ρ.getD i none = some (.tn (os.map oD)) → ρ.getD 2 none = some (.lst ((List.range n).map nN)) →
      xLC [4] (tN 4) (xIt (xV 2)) (x2 (gInA false) (xV 4) (xV i)) (xTup (xCons (xC (sdD s)) (xCons (xV 4) xNil))) ρ B = some (.lst ((((List.range n).filter fun c => !decide (some c ∈ os)).map fun c => (s, c)).map edD), B) := by
    intro s os i ρ hl hi h1 h2
    have hw : ∀ d, ((ρ.set 4 none).set 4 (some d)).getD i none = some (.tn (os.map oD)) := fun d => by
      rw [List.set_set, List.getD_eq_getElem?_getD, List.getElem?_set_ne (Ne.symm hi), ← List.getD_eq_getElem?_getD]
      exact h1
    have hv : ∀ d : D, ((ρ.set 4 none).set 4 (some d)).getD 4 none = some d := fun d => by
      rw [List.set_set, List.getD_eq_getElem?_getD, List.getElem?_set_self (by omega)]
      rfl
    have xv : ∀ (d e : D) (j : Nat), ((ρ.set 4 none).set 4 (some d)).getD j none = some e → xV j ((ρ.set 4 none).set 4 (some d)) B = some (e, B) := fun d e j h => by
      unfold xV
      rw [h]
      rfl
    rw [List.map_map]
    refine lc_run (it_run (d := .lst ((List.range n).map nN)) (by unfold xV; rw [h2]; rfl) rfl) (lc_fm nN (fun c => !decide (some c ∈ os)) (edD ∘ fun c => (s, c)) (List.range n) fun c hc => ⟨_, rfl, x2_run (xv _ _ 4 (hv _)) (xv _ _ i (hw _)) (enc_oD.notN (by decide) (some c) os), fun _ => tup_run (cons_run rfl (cons_run (xv _ _ 4 (hv _)) rfl))⟩) ?_
    rw [List.length_map]
    refine hz _ (Nat.le_trans (filter_len _ _) ?_)
    rw [List.length_range]
    exact hn
  have lcB : ∀ (s : Sd) (ρ : Env), ρ.length = 5 → ρ.getD 2 none = some (.lst ((List.range n).map nN)) →
      xLC [4] (tN 4) (xIt (xV 2)) xYes (xTup (xCons (xC (sdD s)) (xCons (xV 4) xNil))) ρ B = some (.lst (((List.range n).map fun c => (s, c)).map edD), B) := by
    intro s ρ hl h2
    have hv : ∀ d : D, ((ρ.set 4 none).set 4 (some d)).getD 4 none = some d := fun d => by
      rw [List.set_set, List.getD_eq_getElem?_getD, List.getElem?_set_self (by omega)]
      rfl
    have xv : ∀ (d e : D) (j : Nat), ((ρ.set 4 none).set 4 (some d)).getD j none = some e → xV j ((ρ.set 4 none).set 4 (some d)) B = some (e, B) := fun d e j h => by
      unfold xV
      rw [h]
      rfl
    rw [List.map_map]
    refine lc_run (it_run (d := .lst ((List.range n).map nN)) (by unfold xV; rw [h2]; rfl) rfl) (lc_mp nN (edD ∘ fun c => (s, c)) (List.range n) fun c hc => ⟨_, rfl, tup_run (cons_run rfl (cons_run (xv _ _ 4 (hv _)) rfl))⟩) ?_
    rw [List.length_map, List.length_range]
    exact hz _ hn
  have l1 := filter_len (fun c => !decide (some c ∈ us)) (List.range n)
  have l2 := filter_len (fun c => !decide (some c ∈ rs)) (List.range n)
  rw [List.length_range] at l1 l2
  have e0 : x1 gLR1 (x1 gLen (xV 0)) [some (.tn (rs.map oD)), some (.tn (us.map oD)), none, none, none] B = some (.lst ((List.range n).map nN), B) := by
    refine x1_run (x1_run rfl ?_) (gLR (by omega))
    show some (D.int ((rs.map oD).length : Nat)) = _
    rw [List.length_map, hr]
    rfl
  refine fn_run rfl (seq_nx (set_run e0) (seq_nx (set_run (x2_run (lcA .down us 1 _ rfl (by decide) rfl rfl) (lcA .left rs 0 _ rfl (by decide) rfl rfl) (gAdd_lst ?_))) ((ret_run (x2_run (x2_run rfl (lcB .right _ rfl rfl) (gAdd_lst ?_)) (lcB .up _ rfl rfl) (gAdd_lst ?_))).trans ?_)))
  · simp only [List.length_map]
    omega
  · simp only [List.length_append, List.length_map, List.length_range]
    omega
  · simp only [List.length_append, List.length_map, List.length_range]
    omega
  · unfold edgesOf
    rw [List.map_append, List.map_append, List.map_append]
end
structure Pm (m : Nat) (p : List Nat) : Prop where
  len : p.length = m
  nd : p.Nodup
  low : ∀ x ∈ p, x < m
def rot (m b a : Nat) : Nat := if a + b < m then a + b else a + b - m
theorem rot_pm {m b : Nat} (h1 : b < m) : Pm m ((List.range m).map (rot m b)) where
  len := by rw [List.length_map, List.length_range]
  nd := by
    refine List.Pairwise.map _ (fun x y h => h) ?_
    refine List.Pairwise.imp_of_mem (fun {x y} hx hy h z => h ?_) (List.nodup_range (n := m))
    have hx := List.mem_range.mp hx
    have hy := List.mem_range.mp hy
    unfold rot at z
    split at z <;> split at z <;> omega
  low := fun x hx => by
    obtain ⟨a, ha, rfl⟩ := List.mem_map.mp hx
    have ha := List.mem_range.mp ha
    unfold rot
    split <;> omega
theorem perm_pm {m : Nat} {p : List Nat} (h : p.Perm (List.range m)) : Pm m p := ⟨by rw [h.length_eq, List.length_range], h.nodup_iff.mpr List.nodup_range, fun x hx => List.mem_range.mp (h.mem_iff.mp hx)⟩
theorem permutation_ok (m : Nat) (h2 : 2 ≤ m) (hm : m ≤ 100) (b : Bool) (B : Bg) (hB : Bag B) : ∃ (p : List Nat) (B' : Bg), m_law_permutation [.bag, nN m, .bl b] B = some (.tn (p.map nN), B') ∧ Pm m p ∧ Bag B' := by
  obtain ⟨v, B1, e1, hv, hB1⟩ := take_n B hB (m - 1) (by omega) (by omega)
  obtain ⟨q, B2, e2, hq, hB2⟩ := mixed_a nN B1 hB1 (List.range m) (by rw [List.length_range]; omega)
  have e0 : x2 gAdd (xC (.int 1)) (xCall m_law_take (xCons (xV 0) (xCons (x2 gSub (xV 1) (xC (.int 1))) xNil))) [some .bag, some (nN m), some (.bl b), none, none, none, none] B = some (nN (1 + v), B1) := x2_run (x := nN 1) rfl (call_run (cons_run rfl (cons_run (x2_run (y := nN 1) rfl rfl (zs (by omega))) rfl)) e1) (za 1 v)
  have e3 : xLC [6] (tN 6) (xRng1 (xV 1)) xYes (xIf (x2 gLt (x2 gAdd (xV 6) (xV 3)) (xV 1)) (x2 gAdd (xV 6) (xV 3)) (x2 gSub (x2 gAdd (xV 6) (xV 3)) (xV 1))) [some .bag, some (nN m), some (.bl b), some (nN (1 + v)), none, none, none] B1 = some (.lst (((List.range m).map (rot m (1 + v))).map nN), B1) := by
    rw [List.map_map]
    refine lc_run (rgT (by omega) rfl) (lc_mp nN (nN ∘ rot m (1 + v)) (List.range m) fun a ha => ⟨_, rfl, ?_⟩) (by rw [List.length_map, List.length_range]; exact len_small (by omega))
    have s : x2 gAdd (xV 6) (xV 3) [some .bag, some (nN m), some (.bl b), some (nN (1 + v)), none, none, some (nN a)] B1 = some (nN (a + (1 + v)), B1) := x2_run rfl rfl (za a (1 + v))
    have c : x2 gLt (x2 gAdd (xV 6) (xV 3)) (xV 1) [some .bag, some (nN m), some (.bl b), some (nN (1 + v)), none, none, some (nN a)] B1 = some (.bl (decide (a + (1 + v) < m)), B1) := x2_run s rfl (z_lt _ _)
    show _ = some (nN (rot m (1 + v) a), B1)
    unfold rot
    by_cases h : a + (1 + v) < m
    · rw [decide_eq_true h] at c
      rw [if_pos h]
      exact ife_t c s
    · rw [decide_eq_false h] at c
      rw [if_neg h]
      exact ife_f c (x2_run s rfl (zs (by omega)))
  have e4 : ∃ (p : List Nat), xIf (xOr (xV 2) (x2 gEq (xV 5) (x1 gLR1 (xV 1)))) (xV 4) (xV 5) [some .bag, some (nN m), some (.bl b), some (nN (1 + v)), some (.lst (((List.range m).map (rot m (1 + v))).map nN)), some (.lst (q.map nN)), none] B2 = some (.lst (p.map nN), B2) ∧ Pm m p := by
    cases b with
    | true => exact ⟨_, ife_t (or_t rfl) rfl, rot_pm (by omega)⟩
    | false =>
      have c := (enc_lst enc_nN).eq (by decide) q (List.range m)
      by_cases h : q = List.range m
      · rw [decide_eq_true h] at c
        exact ⟨_, ife_t (or_f rfl (x2_run rfl (x1_run rfl (gLR (by omega))) c)) rfl, rot_pm (by omega)⟩
      · rw [decide_eq_false h] at c
        exact ⟨_, ife_f (or_f rfl (x2_run rfl (x1_run rfl (gLR (by omega))) c)) rfl, perm_pm hq⟩
  obtain ⟨p, e4, hp⟩ := e4
  exact ⟨p, B2, fn_run rfl (seq_nx (set_run e0) (seq_nx (set_run e3) (seq_nx (set_run (call_run (cons_run rfl (cons_run (x1_run rfl (gLR (by omega))) rfl)) e2)) (ret_run (x1_run e4 rfl))))), hp, hB2⟩
abbrev Dl := Ed × List Nat
def dlD (d : Dl) : D := .tup [edD d.1, .tn (d.2.map nN)]
theorem enc_pn : Enc (fun p : List Nat => D.tn (p.map nN)) 1 := enc_tn enc_nN
theorem enc_dl : Enc dlD 2 := enc_pair enc_ed enc_pn
theorem alike_dl (a b : Dl) : alike (dlD a).py (dlD b).py = true := by
  show (alike (edD a.1).py (edD b.1).py && (alike (.tuple (pyL (a.2.map nN))) (.tuple (pyL (b.2.map nN))) && alikeAll [] [])) = true
  rw [alike_ed]
  unfold alike
  rw [alike_ns]
  rfl
structure DlOk (m : Nat) (es : List Ed) (dl : List Dl) : Prop where
  at_ : ∀ d ∈ dl, d.1 ∈ es ∧ Pm m d.2
  nd : (dl.map Prod.fst).Nodup
  one : m = 1 → dl = []
theorem DlOk.perm {m : Nat} {es : List Ed} {dl dl' : List Dl} (h : DlOk m es dl) (p : dl'.Perm dl) : DlOk m es dl' := ⟨fun d hd => h.at_ d (p.mem_iff.mp hd), (p.map _).nodup_iff.mpr h.nd, fun e => by
  have := h.one e
  subst this
  exact List.Perm.eq_nil p⟩
theorem nodup_le {α : Type} : ∀ {l m : List α}, l.Nodup → (∀ x ∈ l, x ∈ m) → l.length ≤ m.length
  | [], _, _, _ => Nat.zero_le _
  | x :: l, m, nd, h => by
    obtain ⟨a, b, rfl⟩ := List.append_of_mem (h x List.mem_cons_self)
    obtain ⟨n1, n2⟩ := List.nodup_cons.mp nd
    have := nodup_le (m := a ++ b) n2 fun y hy => by
      rcases List.mem_append.mp (h y (List.mem_cons_of_mem _ hy)) with z | z
      · exact List.mem_append_left _ z
      · rcases List.mem_cons.mp z with z | z
        · exact absurd (z ▸ hy) n1
        · exact List.mem_append_right _ z
    rw [List.length_append] at this
    rw [List.length_append, List.length_cons, List.length_cons]
    omega
theorem DlOk.len {m : Nat} {es : List Ed} {dl : List Dl} (h : DlOk m es dl) : dl.length ≤ es.length := by
  have : (dl.map Prod.fst).length ≤ es.length := nodup_le h.nd fun e he => by
    obtain ⟨d, hd, rfl⟩ := List.mem_map.mp he
    exact (h.at_ d hd).1
  rw [List.length_map] at this
  exact this
theorem some_n (B : Bg) (hB : Bag B) (ns : List Nat) (h0 : ns ≠ []) (h1 : ns.length < 1000) : ∃ (v : Nat) (B' : Bg), m_law_some [.bag, .lst (ns.map nN)] B = some (nN v, B') ∧ v ∈ ns ∧ Bag B' := by
  obtain ⟨i, d, B', e, hd, hB'⟩ := some_lst B hB (ns.map nN) (fun z => h0 (List.map_eq_nil_iff.mp z)) (by rw [List.length_map]; exact h1)
  obtain ⟨v, hv, rfl⟩ := List.mem_map.mp (List.mem_of_getElem? hd)
  exact ⟨v, B', e, hv, hB'⟩
theorem dials_ok (m : Nat) (h1 : 1 ≤ m) (hm : m ≤ 100) (es : List Ed) (nd : es.Nodup) (hl : es.length ≤ 400) (B : Bg) (hB : Bag B) : ∃ (dl : List Dl) (B' : Bg), m_law_dials [.bag, .lst (es.map edD), nN m] B = some (.tn (dl.map dlD), B') ∧ DlOk m es dl ∧ Bag B' := by
  have c : x2 gEq (xV 2) (xC (.int 1)) [some .bag, some (.lst (es.map edD)), some (nN m), none, none, none] B = some (.bl (decide (m = 1)), B) := x2_run rfl rfl (z_eq m 1)
  by_cases h : m = 1
  · rw [decide_eq_true h] at c
    exact ⟨[], B, fn_run rfl (seq_rt (if_t c (ret_run rfl))), ⟨fun d h => (nomatch h), List.nodup_nil, fun _ => rfl⟩, hB⟩
  · rw [decide_eq_false h] at c
    obtain ⟨v, B1, e1, hv, hB1⟩ := take_n B hB 2 (by decide) (by decide)
    obtain ⟨fs, B2, e2, hf, hB2⟩ := mixed_a edD B1 hB1 es (by omega)
    obtain ⟨k, B3, e3, hk, hB3⟩ := some_n B2 hB2 [1, 2, 0, 4, es.length] (by simp) (by show 5 < 1000; decide)
    have e4 : xIt (xSl gSl (xCall m_law_mixed (xCons (xV 0) (xCons (xV 1) xNil))) xPn (xPs (xCall m_law_some (xCons (xV 0) (xCons (xLst (xCons (xC (.int 1)) (xCons (xC (.int 2)) (xCons (xC (.int 0)) (xCons (xC (.int 4)) (xCons (x1 gLen (xV 1)) xNil)))))) xNil))))) [some .bag, some (.lst (es.map edD)), some (nN m), some (.bl (decide (v = 0))), some (.lst []), none] B1 = some ((cutL fs none (some (k : Int))).map edD, B3) := by
      refine it_run (sl_to (k := (k : Int)) (call_run rfl e2) (call_run (cons_run rfl (cons_run (lst_run (cons_run rfl (cons_run rfl (cons_run rfl (cons_run rfl (cons_run (x1_run rfl (d := nN es.length) ?_) rfl)))))) rfl)) e3) rfl) ?_
      · show some (D.int ((es.map edD).length : Nat)) = _
        rw [List.length_map]
        rfl
      · show some (cutL (fs.map edD) none (some (k : Int))) = _
        rw [cut_map]
    have sub := cut_sub fs none (some (k : Int))
    have nd' : (cutL fs none (some (k : Int))).Nodup := sub.nodup (hf.nodup_iff.mpr nd)
    have ll : (cutL fs none (some (k : Int))).length ≤ 400 := by
      have := sub.length_le
      rw [hf.length_eq] at this
      omega
    obtain ⟨ρ', B4, e5, dl, r5, rfl, i1, i2, i3, hB4⟩ := forGo_map (T := tN 5) (body := (sMut 4 gApp (xTup (xCons (xV 5) (xCons (xCall m_law_permutation (xCons (xV 0) (xCons (xV 2) (xCons (xV 3) xNil)))) xNil))))) edD
      (fun done rest ρ B => ∃ (dl : List Dl) (r5 : Option D), ρ = [some .bag, some (.lst (es.map edD)), some (nN m), some (.bl (decide (v = 0))), some (.lst (dl.map dlD)), r5] ∧ dl.map Prod.fst = done ∧ (∀ d ∈ dl, Pm m d.2) ∧ done.length + rest.length ≤ 400 ∧ Bag B)
      (fun done e rest ρ B ⟨dl, r5, h3, h4, h5, h6, h7⟩ => by
        subst h3
        rw [List.length_cons] at h6
        obtain ⟨p, B', ep, hp, hB'⟩ := permutation_ok m (by omega) hm (decide (v = 0)) B h7
        have ldl : dl.length = done.length := by rw [← h4, List.length_map]
        refine ⟨_, _, B', rfl, app_run (d := dlD (e, p)) (tup_run (cons_run rfl (cons_run (call_run rfl ep) rfl))) rfl (by rw [List.length_map]; omega), dl ++ [(e, p)], some (edD e), ?_, ?_, ?_, ?_, hB'⟩
        · rw [List.map_append]
          rfl
        · rw [List.map_append, h4]
          rfl
        · intro d hd
          rcases List.mem_append.mp hd with hd | hd
          · exact h5 d hd
          · rw [List.mem_singleton.mp hd]
            exact hp
        · rw [List.length_append, List.length_singleton]
          omega)
      (cutL fs none (some (k : Int))) [] [some .bag, some (.lst (es.map edD)), some (nN m), some (.bl (decide (v = 0))), some (.lst []), none] B3 ⟨[], none, rfl, rfl, fun d h => (nomatch h), by rw [List.length_nil]; omega, hB3⟩
    rw [List.nil_append] at i1
    obtain ⟨dl', e6, p6⟩ := sort_a dlD dl (fun d _ => ⟨enc_dl.plain d, Nat.le_trans (enc_dl.low d) (by decide), rfl⟩) fun a _ b _ => alike_dl a b
    have ok : DlOk m es dl := ⟨fun d hd => ⟨hf.mem_iff.mp (sub.mem (i1 ▸ List.mem_map.mpr ⟨d, hd, rfl⟩)), i2 d hd⟩, by rw [i1]; exact nd', fun z => absurd z h⟩
    refine ⟨dl', B4, fn_run rfl (seq_nx (if_f c rfl) (seq_nx (par_run (cons_run (x2_run (call_run rfl e1) rfl (z_eq v 0)) (cons_run rfl rfl))) (seq_nx (for_run e4 e5) (ret_run (x1_run (x1_run rfl e6) rfl))))), ok.perm p6, hB4⟩
abbrev Pk := Cn × Fin 8
def nmS (i : Fin 8) : Str := match i with
  | 0 => "a" | 1 => "b" | 2 => "top" | 3 => "red" | 4 => "side" | 5 => "zz" | 6 => "cushion" | 7 => "abcdefghijkl"
def nmD (i : Fin 8) : D := .str (nmS i)
theorem enc_nm : Enc nmD 0 := ⟨fun _ => rfl, by decide +kernel, by decide +kernel, fun _ => Nat.le_refl _⟩
def pkD (p : Pk) : D := .tup [cnD p.1, nmD p.2]
theorem enc_pk : Enc pkD 2 := enc_pair enc_cn (enc_nm.mono (by decide))
structure Tb where
  n : Nat
  m : Nat
  rs : List (Option Nat)
  us : List (Option Nat)
  dl : List Dl
  pk : List Pk
def tbD (t : Tb) : D := .tup [nN t.n, nN t.m, .tn (t.rs.map oD), .tn (t.us.map oD), .tn (t.dl.map dlD), .tn (t.pk.map pkD)]
def Vc (n : Nat) (c : Cn) : Prop := c.1 < n ∧ c.2.1 ≤ 1 ∧ c.2.2 ≤ 1
def cn4 (c : Nat) : List Cn := [(c, 0, 0), (c, 0, 1), (c, 1, 0), (c, 1, 1)]
def cornersOf (n : Nat) : List Cn := (List.range n).flatMap cn4
theorem corners_mem {n : Nat} {c : Cn} : c ∈ cornersOf n ↔ Vc n c := by
  obtain ⟨c, x, y⟩ := c
  unfold cornersOf Vc cn4
  rw [List.mem_flatMap]
  constructor
  · rintro ⟨d, hd, h⟩
    have hd := List.mem_range.mp hd
    simp only [List.mem_cons, Prod.mk.injEq, List.not_mem_nil, or_false] at h
    simp only
    omega
  · rintro ⟨h1, h2, h3⟩
    refine ⟨c, List.mem_range.mpr h1, ?_⟩
    simp only at h2 h3
    simp only [List.mem_cons, Prod.mk.injEq, List.not_mem_nil, or_false, true_and]
    omega
theorem flat_len {α β : Type} (f : α → List β) (k : Nat) (h : ∀ a, (f a).length = k) : ∀ l : List α, (l.flatMap f).length = k * l.length
  | [] => rfl
  | a :: l => by
    rw [List.flatMap_cons, List.length_append, h, flat_len f k h l, List.length_cons, Nat.mul_succ]
    omega
theorem corners_len (n : Nat) : (cornersOf n).length = 4 * n := by
  unfold cornersOf
  rw [flat_len cn4 4 (fun _ => rfl), List.length_range]
theorem corners_ok (t : Tb) (hn : t.n ≤ 100) (B : Bg) : m_law_corners [tbD t] B = some (.lst ((cornersOf t.n).map cnD), B) := by
  obtain ⟨ρ', B', e, r2, rfl, _, hB⟩ := forGo_map (T := tN 2) (body := (sMut 1 gExt (xLst (xCons (xTup (xCons (xV 2) (xCons (xC (.int 0)) (xCons (xC (.int 0)) xNil)))) (xCons (xTup (xCons (xV 2) (xCons (xC (.int 0)) (xCons (xC (.int 1)) xNil)))) (xCons (xTup (xCons (xV 2) (xCons (xC (.int 1)) (xCons (xC (.int 0)) xNil)))) (xCons (xTup (xCons (xV 2) (xCons (xC (.int 1)) (xCons (xC (.int 1)) xNil)))) xNil))))))) nN
    (fun done rest ρ B' => ∃ (r2 : Option D), ρ = [some (tbD t), some (.lst ((done.flatMap cn4).map cnD)), r2] ∧ done.length + rest.length ≤ 100 ∧ B' = B)
    (fun done c rest ρ B' ⟨r2, h3, h4, h5⟩ => by
      subst h3
      rw [List.length_cons] at h4
      refine ⟨_, _, B', rfl, mut_run (es := ((done ++ [c]).flatMap cn4).map cnD) (lst_run (ds := (cn4 c).map cnD) (cons_run rfl (cons_run rfl (cons_run rfl (cons_run rfl rfl))))) rfl ?_, some (nN c), rfl, ?_, h5⟩
      · rw [gExt_run]
        · rw [List.flatMap_append, List.map_append]
          rfl
        · have := flat_len cn4 4 (fun _ => rfl) done
          rw [List.length_map, this, List.length_map]
          show 4 * done.length + 4 ≤ _
          omega
      · rw [List.length_append, List.length_singleton]
        omega)
    (List.range t.n) [] [some (tbD t), some (.lst []), none] B ⟨none, rfl, by rw [List.length_nil, List.length_range]; omega, rfl⟩
  obtain rfl : B = B' := hB.symm
  exact fn_run rfl (seq_nx (set_run rfl) (seq_nx (for_run (rgT (n := t.n) (by omega) rfl) e) (ret_run rfl)))
def besA (os : List (Option Nat)) (c x : Nat) (f : Nat → Nat → Cn) : List Cn := if x = 1 then (match os.getD c none with | some d => [f d 0] | none => []) else []
def besB (os : List (Option Nat)) (c x : Nat) (f : Nat → Nat → Cn) : List Cn := if x = 0 ∧ some c ∈ os then [f (ixOf (some c) os) 1] else []
def bes (t : Tb) (c : Cn) : List Cn := besA t.rs c.1 c.2.1 (fun d i => (d, i, c.2.2)) ++ besB t.rs c.1 c.2.1 (fun d i => (d, i, c.2.2)) ++ besA t.us c.1 c.2.2 (fun d i => (d, c.2.1, i)) ++ besB t.us c.1 c.2.2 (fun d i => (d, c.2.1, i))
theorem besA_len (os : List (Option Nat)) (c x : Nat) (f : Nat → Nat → Cn) : (besA os c x f).length ≤ 1 := by
  unfold besA
  split
  · split <;> simp
  · simp
theorem besB_len (os : List (Option Nat)) (c x : Nat) (f : Nat → Nat → Cn) : (besB os c x f).length ≤ 1 := by
  unfold besB
  split <;> simp
theorem bes_len (t : Tb) (c : Cn) : (bes t c).length ≤ 4 := by
  unfold bes
  have h1 := besA_len t.rs c.1 c.2.1 (fun d i => (d, i, c.2.2))
  have h2 := besB_len t.rs c.1 c.2.1 (fun d i => (d, i, c.2.2))
  have h3 := besA_len t.us c.1 c.2.2 (fun d i => (d, c.2.1, i))
  have h4 := besB_len t.us c.1 c.2.2 (fun d i => (d, c.2.1, i))
  simp only [List.length_append]
  omega
theorem getD_of {os : List (Option Nat)} {c : Nat} {o : Option Nat} (h : os[c]? = some o) : os.getD c none = o := by
  rw [List.getD_eq_getElem?_getD, h]
  rfl
theorem jn_get {n : Nat} {os : List (Option Nat)} (h : Jn n os) {c : Nat} (hc : c < n) : ∃ o, os[c]? = some o := ⟨os[c]'(by rw [h.len]; exact hc), List.getElem?_eq_getElem _⟩
theorem besA_mem {n : Nat} {os : List (Option Nat)} (h : Jn n os) {c x : Nat} {f : Nat → Nat → Cn} {z : Cn} (hz : z ∈ besA os c x f) : ∃ d, d < n ∧ z = f d 0 := by
  unfold besA at hz
  split at hz
  · split at hz
    · rename_i d hd
      refine ⟨d, h.low d ?_, List.mem_singleton.mp hz⟩
      rw [List.getD_eq_getElem?_getD] at hd
      cases e : os[c]? with
      | none =>
        rw [e] at hd
        cases hd
      | some o =>
        rw [e] at hd
        have hd : o = some d := hd
        subst hd
        exact List.mem_of_getElem? e
    · cases hz
  · cases hz
theorem besB_mem {n : Nat} {os : List (Option Nat)} (h : Jn n os) {c x : Nat} {f : Nat → Nat → Cn} {z : Cn} (hz : z ∈ besB os c x f) : ∃ d, d < n ∧ z = f d 1 := by
  unfold besB at hz
  split at hz
  · rename_i hc
    exact ⟨_, h.len ▸ ixOf_lt hc.2, List.mem_singleton.mp hz⟩
  · cases hz
theorem bes_vc {t : Tb} (hr : Jn t.n t.rs) (hu : Jn t.n t.us) {c : Cn} (hc : Vc t.n c) {z : Cn} (hz : z ∈ bes t c) : Vc t.n z := by
  unfold bes at hz
  simp only [List.mem_append] at hz
  obtain ⟨h1, h2, h3⟩ := hc
  rcases hz with ((hz | hz) | hz) | hz
  · obtain ⟨d, hd, rfl⟩ := besA_mem hr hz
    exact ⟨hd, Nat.zero_le _, h3⟩
  · obtain ⟨d, hd, rfl⟩ := besB_mem hr hz
    exact ⟨hd, Nat.le_refl _, h3⟩
  · obtain ⟨d, hd, rfl⟩ := besA_mem hu hz
    exact ⟨hd, h2, Nat.zero_le _⟩
  · obtain ⟨d, hd, rfl⟩ := besB_mem hu hz
    exact ⟨hd, h2, Nat.le_refl _⟩
theorem tb_2 (t : Tb) : gIx (tbD t) (.int 2) = some (.tn (t.rs.map oD)) := rfl
theorem tb_3 (t : Tb) : gIx (tbD t) (.int 3) = some (.tn (t.us.map oD)) := rfl
theorem beside_ok (t : Tb) (hr : Jn t.n t.rs) (hu : Jn t.n t.us) (c : Cn) (hc : c.1 < t.n) (B : Bg) : m_law_beside [tbD t, cnD c] B = some (.lst ((bes t c).map cnD), B) := by
  obtain ⟨c, x, y⟩ := c
  obtain ⟨o, ho⟩ := jn_get hr hc
  obtain ⟨p, hp⟩ := jn_get hu hc
  have gA : ∀ (xs : List Cn) (z : Cn), xs.length ≤ 10 → gApp (xs.map cnD) (cnD z) = some ((xs ++ [z]).map cnD) := fun xs z h => by
    refine (if_pos ?_).trans ?_
    · rw [List.length_map]
      exact Nat.lt_of_lt_of_le (by omega) (len_small (n := 100) (by decide))
    · rw [List.map_append]
      rfl
  have s1 : (sIf (xAnd (x2 gEq (xV 3) (xC (.int 1))) (x2 gIsNot (xV 5) (xC .non))) (sMut 7 gApp (xTup (xCons (xV 5) (xCons (xC (.int 0)) (xCons (xV 4) xNil))))) sNil) [some (tbD t), some (cnD (c, x, y)), some (nN c), some (nN x), some (nN y), some (oD o), some (oD p), some (.lst [])] B = some (.nx [some (tbD t), some (cnD (c, x, y)), some (nN c), some (nN x), some (nN y), some (oD o), some (oD p), some (.lst ((besA t.rs c x (fun d i => (d, i, y))).map cnD))], B) := by
    have c1 : x2 gEq (xV 3) (xC (.int 1)) [some (tbD t), some (cnD (c, x, y)), some (nN c), some (nN x), some (nN y), some (oD o), some (oD p), some (.lst [])] B = some (.bl (decide (x = 1)), B) := x2_run rfl rfl (z_eq x 1)
    unfold besA
    rw [getD_of ho]
    by_cases h : x = 1
    · rw [decide_eq_true h] at c1
      rw [if_pos h]
      cases o with
      | none => exact if_f (and_t c1 rfl) rfl
      | some d => exact if_t (and_t c1 rfl) ((mut_run rfl rfl (gA [] (d, 0, y) (by decide))).trans rfl)
    · rw [decide_eq_false h] at c1
      rw [if_neg h]
      exact if_f (and_f c1) rfl
  have s2 : ∀ xs : List Cn, xs.length ≤ 1 → (sIf (xAnd (x2 gEq (xV 3) (xC (.int 0))) (x2 (gInA true) (xV 2) (x2 gIx (xV 0) (xC (.int 2))))) (sMut 7 gApp (xTup (xCons (x2 gIdx (x2 gIx (xV 0) (xC (.int 2))) (xV 2)) (xCons (xC (.int 1)) (xCons (xV 4) xNil))))) sNil) [some (tbD t), some (cnD (c, x, y)), some (nN c), some (nN x), some (nN y), some (oD o), some (oD p), some (.lst (xs.map cnD))] B = some (.nx [some (tbD t), some (cnD (c, x, y)), some (nN c), some (nN x), some (nN y), some (oD o), some (oD p), some (.lst ((xs ++ besB t.rs c x (fun d i => (d, i, y))).map cnD))], B) := by
    intro xs hl
    have c1 : x2 gEq (xV 3) (xC (.int 0)) [some (tbD t), some (cnD (c, x, y)), some (nN c), some (nN x), some (nN y), some (oD o), some (oD p), some (.lst (xs.map cnD))] B = some (.bl (decide (x = 0)), B) := x2_run rfl rfl (z_eq x 0)
    have c2 : x2 (gInA true) (xV 2) (x2 gIx (xV 0) (xC (.int 2))) [some (tbD t), some (cnD (c, x, y)), some (nN c), some (nN x), some (nN y), some (oD o), some (oD p), some (.lst (xs.map cnD))] B = some (.bl (decide (some c ∈ t.rs)), B) := x2_run rfl (x2_run rfl rfl (tb_2 t)) (enc_oD.yN (by decide) (some c) t.rs)
    unfold besB
    by_cases h : x = 0
    · rw [decide_eq_true h] at c1
      by_cases h2 : some c ∈ t.rs
      · rw [decide_eq_true h2] at c2
        rw [if_pos ⟨h, h2⟩]
        exact if_t (and_t c1 c2) ((mut_run (tup_run (cons_run (x2_run (x2_run rfl rfl (tb_2 t)) rfl (enc_oD.idxN (by decide) h2)) (cons_run rfl (cons_run rfl rfl)))) rfl (gA xs (ixOf (some c) t.rs, 1, y) (by omega))).trans rfl)
      · rw [decide_eq_false h2] at c2
        rw [if_neg fun z => h2 z.2, List.append_nil]
        exact if_f (and_t c1 c2) rfl
    · rw [decide_eq_false h] at c1
      rw [if_neg fun z => h z.1, List.append_nil]
      exact if_f (and_f c1) rfl
  have s3 : ∀ xs : List Cn, xs.length ≤ 2 → (sIf (xAnd (x2 gEq (xV 4) (xC (.int 1))) (x2 gIsNot (xV 6) (xC .non))) (sMut 7 gApp (xTup (xCons (xV 6) (xCons (xV 3) (xCons (xC (.int 0)) xNil))))) sNil) [some (tbD t), some (cnD (c, x, y)), some (nN c), some (nN x), some (nN y), some (oD o), some (oD p), some (.lst (xs.map cnD))] B = some (.nx [some (tbD t), some (cnD (c, x, y)), some (nN c), some (nN x), some (nN y), some (oD o), some (oD p), some (.lst ((xs ++ besA t.us c y (fun d i => (d, x, i))).map cnD))], B) := by
    intro xs hl
    have c1 : x2 gEq (xV 4) (xC (.int 1)) [some (tbD t), some (cnD (c, x, y)), some (nN c), some (nN x), some (nN y), some (oD o), some (oD p), some (.lst (xs.map cnD))] B = some (.bl (decide (y = 1)), B) := x2_run rfl rfl (z_eq y 1)
    unfold besA
    rw [getD_of hp]
    by_cases h : y = 1
    · rw [decide_eq_true h] at c1
      rw [if_pos h]
      cases p with
      | none =>
        rw [List.append_nil]
        exact if_f (and_t c1 rfl) rfl
      | some d => exact if_t (and_t c1 rfl) ((mut_run rfl rfl (gA xs (d, x, 0) (by omega))).trans rfl)
    · rw [decide_eq_false h] at c1
      rw [if_neg h, List.append_nil]
      exact if_f (and_f c1) rfl
  have s4 : ∀ xs : List Cn, xs.length ≤ 3 → (sIf (xAnd (x2 gEq (xV 4) (xC (.int 0))) (x2 (gInA true) (xV 2) (x2 gIx (xV 0) (xC (.int 3))))) (sMut 7 gApp (xTup (xCons (x2 gIdx (x2 gIx (xV 0) (xC (.int 3))) (xV 2)) (xCons (xV 3) (xCons (xC (.int 1)) xNil))))) sNil) [some (tbD t), some (cnD (c, x, y)), some (nN c), some (nN x), some (nN y), some (oD o), some (oD p), some (.lst (xs.map cnD))] B = some (.nx [some (tbD t), some (cnD (c, x, y)), some (nN c), some (nN x), some (nN y), some (oD o), some (oD p), some (.lst ((xs ++ besB t.us c y (fun d i => (d, x, i))).map cnD))], B) := by
    intro xs hl
    have c1 : x2 gEq (xV 4) (xC (.int 0)) [some (tbD t), some (cnD (c, x, y)), some (nN c), some (nN x), some (nN y), some (oD o), some (oD p), some (.lst (xs.map cnD))] B = some (.bl (decide (y = 0)), B) := x2_run rfl rfl (z_eq y 0)
    have c2 : x2 (gInA true) (xV 2) (x2 gIx (xV 0) (xC (.int 3))) [some (tbD t), some (cnD (c, x, y)), some (nN c), some (nN x), some (nN y), some (oD o), some (oD p), some (.lst (xs.map cnD))] B = some (.bl (decide (some c ∈ t.us)), B) := x2_run rfl (x2_run rfl rfl (tb_3 t)) (enc_oD.yN (by decide) (some c) t.us)
    unfold besB
    by_cases h : y = 0
    · rw [decide_eq_true h] at c1
      by_cases h2 : some c ∈ t.us
      · rw [decide_eq_true h2] at c2
        rw [if_pos ⟨h, h2⟩]
        exact if_t (and_t c1 c2) ((mut_run (tup_run (cons_run (x2_run (x2_run rfl rfl (tb_3 t)) rfl (enc_oD.idxN (by decide) h2)) (cons_run rfl (cons_run rfl rfl)))) rfl (gA xs (ixOf (some c) t.us, x, 1) (by omega))).trans rfl)
      · rw [decide_eq_false h2] at c2
        rw [if_neg fun z => h2 z.2, List.append_nil]
        exact if_f (and_t c1 c2) rfl
    · rw [decide_eq_false h] at c1
      rw [if_neg fun z => h z.1, List.append_nil]
      exact if_f (and_f c1) rfl
  have g1 : x2 gIx (x2 gIx (xV 0) (xC (.int 2))) (xV 2) [some (tbD t), some (cnD (c, x, y)), some (nN c), some (nN x), some (nN y), none, none, none] B = some (oD o, B) := x2_run (x2_run rfl rfl (tb_2 t)) rfl (ix_tn (map_get ho))
  have g2 : x2 gIx (x2 gIx (xV 0) (xC (.int 3))) (xV 2) [some (tbD t), some (cnD (c, x, y)), some (nN c), some (nN x), some (nN y), none, none, none] B = some (oD p, B) := x2_run (x2_run rfl rfl (tb_3 t)) rfl (ix_tn (map_get hp))
  have l1 := besA_len t.rs c x (fun d i => (d, i, y))
  have l2 := besB_len t.rs c x (fun d i => (d, i, y))
  have l3 := besA_len t.us c y (fun d i => (d, x, i))
  exact fn_run rfl (seq_nx (unp_run rfl rfl) (seq_nx (par_run (cons_run g1 (cons_run g2 rfl))) (seq_nx (set_run rfl) (seq_nx s1 (seq_nx (s2 _ l1) (seq_nx (s3 _ (by rw [List.length_append]; omega)) (seq_nx (s4 _ (by rw [List.length_append, List.length_append]; omega)) (ret_run rfl))))))))
open PySem.W NS
theorem sortN_a {α : Type} [DecidableEq α] (g g' : α → D) {k : Nat} (e : Enc g k) (hk : k ≤ 8) (as : List α) (hl : as.length < 64) (h1 : ∀ a ∈ as, numD (g a).py = true ∧ consT (g a).py = true ∧ dN (g a).py = g' a) (h2 : ∀ a ∈ as, ∀ b ∈ as, alike (g a).py (g b).py = true) :
    ∃ bs : List α, gSortSetN (.lst (as.map g)) = some (.lst (bs.map g')) ∧ bs.Nodup ∧ (∀ x, x ∈ bs ↔ x ∈ as) ∧ UpP (bs.map fun b => (g b).py) := by
  have ok : okNest (as.map g) = true := by
    unfold okNest
    rw [Bool.and_eq_true, List.all_eq_true, List.all_eq_true]
    refine ⟨fun d hd => ?_, fun d hd => ?_⟩
    · obtain ⟨a, ha, rfl⟩ := List.mem_map.mp hd
      obtain ⟨q1, q2, _⟩ := h1 a ha
      rw [e.plain, q1, q2, decide_eq_true (Nat.le_trans (e.low a) hk)]
      rfl
    · obtain ⟨a, ha, rfl⟩ := List.mem_map.mp hd
      rw [List.all_eq_true]
      intro d' hd'
      obtain ⟨b, hb, rfl⟩ := List.mem_map.mp hd'
      exact h2 a ha b hb
  have al : Alk ((as.map g).map D.py) := ⟨fun d hd => by
    obtain ⟨d', hd', rfl⟩ := List.mem_map.mp hd
    obtain ⟨a, ha, rfl⟩ := List.mem_map.mp hd'
    exact (h1 a ha).1, fun d hd d' hd' => by
    obtain ⟨x, hx, rfl⟩ := List.mem_map.mp hd
    obtain ⟨a, ha, rfl⟩ := List.mem_map.mp hx
    obtain ⟨y, hy, rfl⟩ := List.mem_map.mp hd'
    obtain ⟨b, hb, rfl⟩ := List.mem_map.mp hy
    exact h2 a ha b hb⟩
  have up := sortU_up al
  -- back to things
  have back : ∀ ds : List PyData, (∀ d ∈ ds, ∃ a ∈ as, (g a).py = d) → ∃ bs : List α, ds = bs.map (fun b => (g b).py) ∧ ∀ b ∈ bs, b ∈ as := by
    intro ds
    induction ds with
    | nil => exact fun _ => ⟨[], rfl, fun b h => (nomatch h)⟩
    | cons d ds ih =>
      intro h
      obtain ⟨bs, e1, e2⟩ := ih fun x hx => h x (List.mem_cons_of_mem _ hx)
      obtain ⟨a, ha, e3⟩ := h d List.mem_cons_self
      exact ⟨a :: bs, by rw [e1, List.map_cons, e3], fun b hb => (List.mem_cons.mp hb).elim (fun z => z ▸ ha) (e2 b)⟩
  obtain ⟨bs, eb, hb⟩ := back (sortU ((as.map g).map D.py)) fun d hd => by
    obtain ⟨x, hx, rfl⟩ := List.mem_map.mp ((sortU_mem al).mp hd)
    obtain ⟨a, ha, rfl⟩ := List.mem_map.mp hx
    exact ⟨a, ha, rfl⟩
  have ginj : ∀ a b : α, (g a).py = (g b).py → a = b := fun a b z => by
    have q := e.eqv a b
    rw [z, e.eqv b b] at q
    exact of_decide_eq_true (q.symm.trans (decide_eq_true rfl))
  rw [eb] at up
  refine ⟨bs, ?_, ?_, fun x => ⟨hb x, fun hx => ?_⟩, up⟩
  · show (if (as.map g).length < 64 ∧ okNest (as.map g) = true then some (D.lst (sortN (as.map g))) else none) = _
    rw [if_pos ⟨by rw [List.length_map]; exact hl, ok⟩]
    unfold sortN
    rw [eb, List.map_map]
    congr 2
    exact List.map_congr_left fun b hb' => (h1 b (hb b hb')).2.2
  · have q : bs.Pairwise fun a b => dataLt (g a).py (g b).py = true := List.pairwise_map.mp up
    refine List.Pairwise.imp (fun {a b} h z => ?_) q
    subst z
    rw [lt_irr] at h
    cases h
  · have : (g x).py ∈ sortU ((as.map g).map D.py) := (sortU_mem al).mpr (List.mem_map.mpr ⟨g x, List.mem_map.mpr ⟨x, hx, rfl⟩, rfl⟩)
    rw [eb] at this
    obtain ⟨b, hb', ez⟩ := List.mem_map.mp this
    rw [← ginj b x ez]
    exact hb'
theorem alike_cn (a b : Cn) : alike (cnD a).py (cnD b).py = true := rfl
theorem srt_ex (as : List Cn) (hl : as.length < 64) : ∃ bs : List Cn, gSortSetN (.lst (as.map cnD)) = some (.lst (bs.map cnD)) ∧ bs.Nodup ∧ (∀ x, x ∈ bs ↔ x ∈ as) ∧ UpP (bs.map fun b => (cnD b).py) := sortN_a cnD cnD enc_cn (by decide) as hl (fun _ _ => ⟨rfl, rfl, rfl⟩) fun a _ b _ => alike_cn a b
noncomputable def srt (as : List Cn) : List Cn := if h : as.length < 64 then Classical.choose (srt_ex as h) else []
theorem srt_ok {as : List Cn} (h : as.length < 64) : gSortSetN (.lst (as.map cnD)) = some (.lst ((srt as).map cnD)) ∧ (srt as).Nodup ∧ ∀ x, x ∈ srt as ↔ x ∈ as := by
  unfold srt
  rw [dif_pos h]
  have := Classical.choose_spec (srt_ex as h)
  exact ⟨this.1, this.2.1, this.2.2.1⟩
noncomputable def more (t : Tb) (found : List Cn) (c : Cn) : List Cn := (srt (bes t c)).filter fun y => !decide (y ∈ found)
noncomputable def walkP (t : Tb) : Nat → List Cn → Nat → List Cn
  | 0, found, _ => found
  | f + 1, found, i => match found[i]? with
    | none => found
    | some c => walkP t f (found ++ more t found c) (i + 1)
def poC : Ex := x2 gLt (xV 3) (x1 gLen (xV 2))
def poB : Sx := (sSeq (sMut 2 gExt (xLC [4] (tN 4) (xIt (x1 gSortSetN (xCall m_law_beside (xCons (xV 0) (xCons (x2 gIx (xV 2) (xV 3)) xNil))))) (x2 (gInA false) (xV 4) (xV 2)) (xV 4))) (sAug 3 (gInt2 fun i j => i + j) (xC (.int 1))))
theorem srt_bes (t : Tb) (c : Cn) : (bes t c).length < 64 := Nat.lt_of_le_of_lt (bes_len t c) (by decide)
theorem more_mem {t : Tb} {found : List Cn} {c x : Cn} : x ∈ more t found c ↔ x ∈ bes t c ∧ x ∉ found := by
  unfold more
  rw [List.mem_filter, (srt_ok (srt_bes t c)).2.2]
  simp
theorem more_nodup (t : Tb) (found : List Cn) (c : Cn) : (more t found c).Nodup := (srt_ok (srt_bes t c)).2.1.filter _
structure Wk (t : Tb) (c0 : Cn) (found : List Cn) (i : Nat) : Prop where
  nd : found.Nodup
  vc : ∀ x ∈ found, Vc t.n x
  st : c0 ∈ found
  cl : ∀ j x, j < i → found[j]? = some x → ∀ y ∈ bes t x, y ∈ found
  mn : ∀ S : Cn → Prop, S c0 → (∀ x, S x → ∀ y ∈ bes t x, S y) → ∀ x ∈ found, S x
theorem Wk.len {t : Tb} {c0 : Cn} {found : List Cn} {i : Nat} (h : Wk t c0 found i) : found.length ≤ 4 * t.n := by
  rw [← corners_len]
  exact nodup_le h.nd fun x hx => corners_mem.mpr (h.vc x hx)
theorem Wk.step {t : Tb} (hr : Jn t.n t.rs) (hu : Jn t.n t.us) {c0 : Cn} {found : List Cn} {i : Nat} (h : Wk t c0 found i) {c : Cn} (hc : found[i]? = some c) : Wk t c0 (found ++ more t found c) (i + 1) where
  nd := List.nodup_append.mpr ⟨h.nd, more_nodup t found c, fun a ha b hb z => (more_mem.mp hb).2 (z ▸ ha)⟩
  vc := fun x hx => by
    rcases List.mem_append.mp hx with hx | hx
    · exact h.vc x hx
    · exact bes_vc hr hu (h.vc c (List.mem_of_getElem? hc)) (more_mem.mp hx).1
  st := List.mem_append_left _ h.st
  cl := fun j x hj hx y hy => by
    have lt : i < found.length := (List.getElem?_eq_some_iff.mp hc).1
    rw [List.getElem?_append_left (by omega)] at hx
    by_cases e : j = i
    · subst e
      rw [hc] at hx
      cases hx
      by_cases m : y ∈ found
      · exact List.mem_append_left _ m
      · exact List.mem_append_right _ (more_mem.mpr ⟨hy, m⟩)
    · exact List.mem_append_left _ (h.cl j x (by omega) hx y hy)
  mn := fun S h0 hs x hx => by
    rcases List.mem_append.mp hx with hx | hx
    · exact h.mn S h0 hs x hx
    · exact hs c (h.mn S h0 hs c (List.mem_of_getElem? hc)) x (more_mem.mp hx).1
theorem walkP_wk {t : Tb} (hr : Jn t.n t.rs) (hu : Jn t.n t.us) {c0 : Cn} : ∀ (f : Nat) (found : List Cn) (i : Nat), Wk t c0 found i → 4 * t.n < f + i → Wk t c0 (walkP t f found i) (walkP t f found i).length
  | 0, found, i, h, hf => by
    show Wk t c0 found found.length
    exact ⟨h.nd, h.vc, h.st, fun j x hj hx => h.cl j x (by have := h.len; omega) hx, h.mn⟩
  | f + 1, found, i, h, hf => by
    unfold walkP
    cases e : found[i]? with
    | none =>
      show Wk t c0 found found.length
      exact ⟨h.nd, h.vc, h.st, fun j x hj hx => h.cl j x (by have := List.getElem?_eq_none_iff.mp e; omega) hx, h.mn⟩
    | some c => exact walkP_wk hr hu f _ (i + 1) (h.step hr hu e) (by omega)
theorem zi (i j : Nat) : gInt2 (fun i j => i + j) (nN i) (nN j) = some (nN (i + j)) := by
  show some (D.int ((i : Int) + (j : Int))) = some (D.int ((i + j : Nat) : Int))
  rw [Int.natCast_add]
theorem po_step (t : Tb) (hr : Jn t.n t.rs) (hu : Jn t.n t.us) (c0 : Cn) (found : List Cn) (i : Nat) (hl : found.length ≤ 1000) (c : Cn) (hc : found[i]? = some c) (hv : c.1 < t.n) (r4 : Option D) (B : Bg) :
    poB [some (tbD t), some (cnD c0), some (.lst (found.map cnD)), some (nN i), r4] B = some (.nx [some (tbD t), some (cnD c0), some (.lst ((found ++ more t found c).map cnD)), some (nN (i + 1)), r4], B) := by
  have e1 : x1 gSortSetN (xCall m_law_beside (xCons (xV 0) (xCons (x2 gIx (xV 2) (xV 3)) xNil))) [some (tbD t), some (cnD c0), some (.lst (found.map cnD)), some (nN i), r4] B = some (.lst ((srt (bes t c)).map cnD), B) := x1_run (call_run (cons_run rfl (cons_run (x2_run rfl rfl (ix_lst (map_get hc))) rfl)) (beside_ok t hr hu c hv B)) (srt_ok (srt_bes t c)).1
  have l1 : (srt (bes t c)).length ≤ 4 := Nat.le_trans (nodup_le (srt_ok (srt_bes t c)).2.1 fun x hx => ((srt_ok (srt_bes t c)).2.2 x).mp hx) (bes_len t c)
  have l2 : (more t found c).length ≤ 4 := Nat.le_trans (filter_len _ _) l1
  have e2 : xLC [4] (tN 4) (xIt (x1 gSortSetN (xCall m_law_beside (xCons (xV 0) (xCons (x2 gIx (xV 2) (xV 3)) xNil))))) (x2 (gInA false) (xV 4) (xV 2)) (xV 4) [some (tbD t), some (cnD c0), some (.lst (found.map cnD)), some (nN i), r4] B = some (.lst ((more t found c).map cnD), B) := by
    refine lc_run (it_run e1 rfl) (lc_fm cnD (fun y => !decide (y ∈ found)) cnD (srt (bes t c)) fun y hy => ⟨_, rfl, x2_run rfl rfl (enc_cn.nL (by decide) y found), fun _ => rfl⟩) ?_
    rw [List.length_map]
    exact len_small (by show (more t found c).length ≤ _; omega)
  refine seq_nx (mut_run e2 rfl (gExt_run (by rw [List.length_map, List.length_map]; omega))) ((aug_run rfl rfl (zi i 1)).trans ?_)
  rw [List.map_append]
  rfl
theorem po_go (t : Tb) (hr : Jn t.n t.rs) (hu : Jn t.n t.us) (hn : t.n ≤ 100) (c0 : Cn) (B : Bg) : ∀ (f : Nat) (found : List Cn) (i : Nat) (r4 : Option D), Wk t c0 found i → i ≤ found.length → 4 * t.n < f + i →
    ∃ j r4', whileGo poC poB f [some (tbD t), some (cnD c0), some (.lst (found.map cnD)), some (nN i), r4] B = some (.nx [some (tbD t), some (cnD c0), some (.lst ((walkP t f found i).map cnD)), some (nN j), r4'], B)
  | 0, found, i, r4, h, hi, hf => by
    have := h.len
    omega
  | f + 1, found, i, r4, h, hi, hf => by
    have hl := h.len
    have c1 : poC [some (tbD t), some (cnD c0), some (.lst (found.map cnD)), some (nN i), r4] B = some (.bl (decide (i < found.length)), B) := by
      refine x2_run (y := nN found.length) rfl (x1_run rfl ?_) (z_lt _ _)
      show some (D.int ((found.map cnD).length : Nat)) = _
      rw [List.length_map]
      rfl
    unfold walkP
    cases e : found[i]? with
    | none =>
      have := List.getElem?_eq_none_iff.mp e
      rw [decide_eq_false (by omega)] at c1
      exact ⟨i, r4, while_off c1⟩
    | some c =>
      have lt := (List.getElem?_eq_some_iff.mp e).1
      rw [decide_eq_true lt] at c1
      have hv := h.vc c (List.mem_of_getElem? e)
      obtain ⟨j, r4', ih⟩ := po_go t hr hu hn c0 B f (found ++ more t found c) (i + 1) r4 (h.step hr hu e) (by rw [List.length_append]; omega) (by omega)
      exact ⟨j, r4', while_nx c1 (po_step t hr hu c0 found i (by omega) c e hv.1 r4 B) ih⟩
theorem srtL_ex (as : List Cn) : ∃ bs : List Cn, gSortD (.lst (as.map cnD)) = some (.lst (bs.map cnD)) ∧ bs.Perm as := sort_a cnD as (fun d _ => ⟨enc_cn.plain d, Nat.le_trans (enc_cn.low d) (by decide), rfl⟩) fun a _ b _ => alike_cn a b
noncomputable def srtL (as : List Cn) : List Cn := Classical.choose (srtL_ex as)
theorem srtL_ok (as : List Cn) : gSortD (.lst (as.map cnD)) = some (.lst ((srtL as).map cnD)) ∧ (srtL as).Perm as := Classical.choose_spec (srtL_ex as)
noncomputable def ptOf (t : Tb) (c : Cn) : List Cn := srtL (walkP t fuel [c] 0)
theorem wk0 {t : Tb} {c : Cn} (hc : Vc t.n c) : Wk t c [c] 0 := ⟨by simp, fun x hx => List.mem_singleton.mp hx ▸ hc, List.mem_singleton.mpr rfl, fun j x hj => absurd hj (Nat.not_lt_zero _), fun S h0 _ x hx => List.mem_singleton.mp hx ▸ h0⟩
theorem point_ok (t : Tb) (hr : Jn t.n t.rs) (hu : Jn t.n t.us) (hn : t.n ≤ 100) (c : Cn) (hc : Vc t.n c) (B : Bg) : m_law_point_of [tbD t, cnD c] B = some (.tn ((ptOf t c).map cnD), B) := by
  obtain ⟨j, r4, e⟩ := po_go t hr hu hn c B fuel [c] 0 none (wk0 hc) (Nat.zero_le _) (by show 4 * t.n < 1000000 + 0; omega)
  exact fn_run rfl (seq_nx (par_run rfl) (seq_nx e (ret_run (x1_run (x1_run rfl (srtL_ok _).1) rfl))))
theorem pt_wk {t : Tb} (hr : Jn t.n t.rs) (hu : Jn t.n t.us) (hn : t.n ≤ 100) {c : Cn} (hc : Vc t.n c) : (ptOf t c).Nodup ∧ (∀ x ∈ ptOf t c, Vc t.n x) ∧ c ∈ ptOf t c ∧ (∀ x ∈ ptOf t c, ∀ y ∈ bes t x, y ∈ ptOf t c) ∧ (∀ S : Cn → Prop, S c → (∀ x, S x → ∀ y ∈ bes t x, S y) → ∀ x ∈ ptOf t c, S x) := by
  have w := walkP_wk hr hu fuel [c] 0 (wk0 hc) (by show 4 * t.n < 1000000 + 0; omega)
  have p := (srtL_ok (walkP t fuel [c] 0)).2
  have m : ∀ x, x ∈ ptOf t c ↔ x ∈ walkP t fuel [c] 0 := fun x => p.mem_iff
  refine ⟨p.nodup_iff.mpr w.nd, fun x hx => w.vc x ((m x).mp hx), (m c).mpr w.st, fun x hx y hy => ?_, fun S h0 hs x hx => w.mn S h0 hs x ((m x).mp hx)⟩
  obtain ⟨j, hj⟩ := List.getElem?_of_mem ((m x).mp hx)
  exact (m y).mpr (w.cl j x (List.getElem?_eq_some_iff.mp hj).1 hj y hy)
def ptD (p : List Cn) : D := .tn (p.map cnD)
def ptT (p : List Cn) : D := .tup (p.map cnD)
theorem enc_pt : Enc ptD 2 := enc_tn enc_cn
theorem num_cns : ∀ p : List Cn, numDs (pyL (p.map cnD)) = true
  | [] => rfl
  | c :: p => by
    show (numD (cnD c).py && numDs (pyL (p.map cnD))) = true
    rw [num_cns p]
    rfl
theorem dNs_cns : ∀ p : List Cn, dNs (pyL (p.map cnD)) = p.map cnD
  | [] => rfl
  | c :: p => by
    show dN (cnD c).py :: dNs (pyL (p.map cnD)) = _
    rw [dNs_cns p]
    rfl
theorem alike_cns : ∀ p q : List Cn, alikeAll (pyL (p.map cnD)) (pyL (q.map cnD)) = true
  | [], q => by
    show alikeAll [] _ = true
    cases pyL _ <;> rfl
  | c :: p, [] => rfl
  | c :: p, d :: q => by
    show (alike (cnD c).py (cnD d).py && alikeAll (pyL (p.map cnD)) (pyL (q.map cnD))) = true
    rw [alike_cns p q, alike_cn]
    rfl
theorem points_ok (t : Tb) (hr : Jn t.n t.rs) (hu : Jn t.n t.us) (hn : t.n ≤ 15) (B : Bg) : ∃ qs : List (List Cn), (∀ B, m_law_points [tbD t] B = some (.lst (qs.map ptT), B)) ∧ qs.Nodup ∧ (∀ q, q ∈ qs ↔ ∃ c, Vc t.n c ∧ q = ptOf t c) ∧ UpP (qs.map fun b => (ptD b).py) := by
  obtain ⟨qs, e1, e2, e3, e4⟩ := sortN_a ptD ptT enc_pt (by decide) ((cornersOf t.n).map (ptOf t)) (by rw [List.length_map, corners_len]; omega) (fun p hp => by
    obtain ⟨c, hc, rfl⟩ := List.mem_map.mp hp
    have w := (pt_wk hr hu (by omega) (corners_mem.mp hc)).2.2.1
    refine ⟨?_, ?_, ?_⟩
    · show numD (.tuple (pyL ((ptOf t c).map cnD))) = true
      unfold numD
      exact num_cns _
    · show consT (.tuple (pyL ((ptOf t c).map cnD))) = true
      cases e : ptOf t c with
      | nil =>
        rw [e] at w
        cases w
      | cons a l => rfl
    · show dN (.tuple (pyL ((ptOf t c).map cnD))) = _
      unfold dN
      rw [dNs_cns]
      rfl) fun a _ b _ => by
    show alike (.tuple (pyL (a.map cnD))) (.tuple (pyL (b.map cnD))) = true
    unfold alike
    exact alike_cns a b
  refine ⟨qs, fun B => ?_, e2, fun q => ?_, e4⟩
  · have lc : xLC [1] (tN 1) (xIt (xCall m_law_corners (xCons (xV 0) xNil))) xYes (xCall m_law_point_of (xCons (xV 0) (xCons (xV 1) xNil))) [some (tbD t), none] B = some (.lst (((cornersOf t.n).map (ptOf t)).map ptD), B) := by
      rw [List.map_map]
      refine lc_run (it_run (call_run rfl (corners_ok t (by omega) B)) rfl) (lc_mp cnD (ptD ∘ ptOf t) (cornersOf t.n) fun c hc => ⟨_, rfl, call_run rfl (point_ok t hr hu (by omega) c (corners_mem.mp hc) B)⟩) ?_
      rw [List.length_map, corners_len]
      exact len_small (by omega)
    exact fn_run rfl (ret_run (x1_run lc e1))
  · rw [e3, List.mem_map]
    constructor
    · rintro ⟨c, hc, rfl⟩
      exact ⟨c, corners_mem.mp hc, rfl⟩
    · rintro ⟨c, hc, rfl⟩
      exact ⟨c, corners_mem.mpr hc, rfl⟩
theorem walkP_cong {t t' : Tb} (h : bes t = bes t') : ∀ (f : Nat) (found : List Cn) (i : Nat), walkP t f found i = walkP t' f found i
  | 0, _, _ => rfl
  | f + 1, found, i => by
    have hm : more t = more t' := by
      funext a b
      unfold more
      rw [h]
    unfold walkP
    rw [hm]
    cases found[i]? with
    | none => rfl
    | some c => exact walkP_cong h f _ _
theorem ptOf_cong {t t' : Tb} (h : bes t = bes t') (c : Cn) : ptOf t c = ptOf t' c := by
  unfold ptOf
  rw [walkP_cong h]
open PySem.W NS
theorem tri_toks {x y : PyData} (h1 : dataLt x y = false) (h2 : dataLt y x = false) : keyToks x = keyToks y := (listOrd itemOrd).total _ _ h1 h2
theorem tri_cn {c d : Cn} (h1 : dataLt (cnD c).py (cnD d).py = false) (h2 : dataLt (cnD d).py (cnD c).py = false) : c = d := by
  have e := tri_toks h1 h2
  obtain ⟨a, x, y⟩ := c
  obtain ⟨b, x', y'⟩ := d
  have e : [Sum.inl 1, Sum.inl (a : Int), .inl 1, .inl (x : Int), .inl 1, .inl (y : Int), .inl 0] = [(Sum.inl 1 : Int ⊕ List Nat), .inl (b : Int), .inl 1, .inl (x' : Int), .inl 1, .inl (y' : Int), .inl 0] := e
  simp only [List.cons.injEq, Sum.inl.injEq, true_and, and_true] at e
  simp only [Prod.mk.injEq]
  omega
theorem sort_up {α : Type} [DecidableEq α] {g : α → D} {k : Nat} (e : Enc g k) (tri : ∀ a b, dataLt (g a).py (g b).py = false → dataLt (g b).py (g a).py = false → a = b) {as bs : List α} (h : gSortD (.lst (as.map g)) = some (.lst (bs.map g))) (p : bs.Perm as) (nd : as.Nodup) : bs.Pairwise fun a b => dataLt (g a).py (g b).py = true := by
  have hs : (if okSort (as.map g) = true then some (D.lst ((as.map g).mergeSort leDD)) else none) = some (.lst (bs.map g)) := h
  by_cases ok : okSort (as.map g) = true
  · rw [if_pos ok] at hs
    have hs : (as.map g).mergeSort leDD = bs.map g := by
      injection hs with hs
      injection hs
    have T := sortLe_total (listOrd itemOrd) false fun d : D => keyToks d.py
    have pw := List.pairwise_mergeSort (le := leDD) T.trans (fun a b => by rw [Bool.or_eq_true]; exact T.total a b) (as.map g)
    rw [hs] at pw
    have pw := List.pairwise_map.mp pw
    have nb : bs.Nodup := p.nodup_iff.mpr nd
    refine List.Pairwise.imp_of_mem (fun {x y} hx hy q => ?_) (List.pairwise_and_iff.mpr ⟨pw, nb⟩)
    have q1 : (!dataLt (g y).py (g x).py) = true := q.1
    rw [Bool.not_eq_true'] at q1
    cases z : dataLt (g x).py (g y).py with
    | true => rfl
    | false => exact absurd (tri x y z q1) q.2
  · rw [if_neg ok] at hs
    cases hs
theorem up_eq {α : Type} [DecidableEq α] {g : α → D} {k : Nat} (e : Enc g k) : ∀ {as bs : List α}, (as.Pairwise fun a b => dataLt (g a).py (g b).py = true) → (bs.Pairwise fun a b => dataLt (g a).py (g b).py = true) → (∀ x, x ∈ as ↔ x ∈ bs) → as = bs := by
  intro as bs ha hb hm
  have q := up_uniq (l := as.map fun a => (g a).py) (m := bs.map fun a => (g a).py) (List.pairwise_map.mpr ha) (List.pairwise_map.mpr hb) fun x => by
    rw [List.mem_map, List.mem_map]
    constructor
    · rintro ⟨a, h, rfl⟩
      exact ⟨a, (hm a).mp h, rfl⟩
    · rintro ⟨a, h, rfl⟩
      exact ⟨a, (hm a).mpr h, rfl⟩
  have inj : ∀ a b : α, (g a).py = (g b).py → a = b := fun a b z => by
    have q := e.eqv a b
    rw [z, e.eqv b b] at q
    exact of_decide_eq_true (q.symm.trans (decide_eq_true rfl))
  have go : ∀ as bs : List α, as.map (fun a => (g a).py) = bs.map (fun a => (g a).py) → as = bs := by
    intro as
    induction as with
    | nil =>
      intro bs h
      exact (List.map_eq_nil_iff.mp h.symm).symm
    | cons a as ih =>
      intro bs h
      cases bs with
      | nil => cases h
      | cons b bs =>
        have h := List.cons.inj h
        rw [inj a b h.1, ih bs h.2]
  exact go as bs q
theorem srtL_up {as : List Cn} (nd : as.Nodup) : (srtL as).Pairwise fun a b => dataLt (cnD a).py (cnD b).py = true := sort_up enc_cn (fun _ _ => tri_cn) (srtL_ok as).1 (srtL_ok as).2 nd
theorem srtL_eq {as bs : List Cn} (na : as.Nodup) (nb : bs.Nodup) (h : ∀ x, x ∈ as ↔ x ∈ bs) : srtL as = srtL bs := up_eq enc_cn (srtL_up na) (srtL_up nb) fun x => by
  rw [(srtL_ok as).2.mem_iff, (srtL_ok bs).2.mem_iff]
  exact h x
section
variable {t : Tb}
theorem besA_sym {n : Nat} {os : List (Option Nat)} (h : Jn n os) {c x : Nat} {f : Nat → Nat → Cn} {z : Cn} (hz : z ∈ besA os c x f) : ∃ d, z = f d 0 ∧ x = 1 ∧ os[c]? = some (some d) := by
  unfold besA at hz
  by_cases hx : x = 1
  · rw [if_pos hx, List.getD_eq_getElem?_getD] at hz
    cases e : os[c]? with
    | none =>
      rw [e] at hz
      cases hz
    | some o =>
      rw [e] at hz
      cases o with
      | none => cases hz
      | some d => exact ⟨d, List.mem_singleton.mp hz, hx, rfl⟩
  · rw [if_neg hx] at hz
    cases hz
theorem besB_sym {os : List (Option Nat)} {c x : Nat} {f : Nat → Nat → Cn} {z : Cn} (hz : z ∈ besB os c x f) : ∃ d, z = f d 1 ∧ x = 0 ∧ os[d]? = some (some c) ∧ d = ixOf (some c) os := by
  unfold besB at hz
  by_cases hx : x = 0 ∧ some c ∈ os
  · rw [if_pos hx] at hz
    exact ⟨_, List.mem_singleton.mp hz, hx.1, ixOf_get hx.2, rfl⟩
  · rw [if_neg hx] at hz
    cases hz
theorem mem_besA {os : List (Option Nat)} {c d : Nat} {f : Nat → Nat → Cn} (h : os[c]? = some (some d)) : f d 0 ∈ besA os c 1 f := by
  unfold besA
  rw [if_pos rfl, getD_of h]
  exact List.mem_singleton.mpr rfl
theorem mem_besB {n : Nat} {os : List (Option Nat)} (hj : Jn n os) {c d : Nat} {f : Nat → Nat → Cn} (h : os[d]? = some (some c)) : f d 1 ∈ besB os c 0 f := by
  unfold besB
  have hm := List.mem_of_getElem? h
  rw [if_pos ⟨rfl, hm⟩, hj.inj _ _ _ (ixOf_get hm) h]
  exact List.mem_singleton.mpr rfl
theorem bes_sym (hr : Jn t.n t.rs) (hu : Jn t.n t.us) {x y : Cn} (h : y ∈ bes t x) : x ∈ bes t y := by
  obtain ⟨c, a, b⟩ := x
  unfold bes at h
  simp only [List.mem_append] at h
  unfold bes
  simp only [List.mem_append]
  rcases h with ((h | h) | h) | h
  · obtain ⟨d, rfl, rfl, e⟩ := besA_sym hr h
    exact .inl (.inl (.inr (mem_besB hr e)))
  · obtain ⟨d, rfl, rfl, e, _⟩ := besB_sym h
    exact .inl (.inl (.inl (mem_besA e)))
  · obtain ⟨d, rfl, rfl, e⟩ := besA_sym hu h
    exact .inr (mem_besB hu e)
  · obtain ⟨d, rfl, rfl, e, _⟩ := besB_sym h
    exact .inl (.inr (mem_besA e))
theorem bes_nodup (hr : Jn t.n t.rs) (hu : Jn t.n t.us) (x : Cn) : (bes t x).Nodup := by
  have one : ∀ l : List Cn, l.length ≤ 1 → l.Nodup := fun l h => by
    match l, h with
    | [], _ => exact List.nodup_nil
    | [a], _ => simp
  obtain ⟨c, a, b⟩ := x
  unfold bes
  refine List.nodup_append.mpr ⟨List.nodup_append.mpr ⟨List.nodup_append.mpr ⟨one _ (besA_len ..), one _ (besB_len ..), ?_⟩, one _ (besA_len ..), ?_⟩, one _ (besB_len ..), ?_⟩
  · intro u hu' v hv z
    obtain ⟨d, e1, e2, _⟩ := besA_sym hr hu'
    obtain ⟨d', e3, e4, _⟩ := besB_sym hv
    have e2 : a = 1 := e2
    have e4 : a = 0 := e4
    omega
  · intro u hu' v hv z
    obtain ⟨d', e3, e4, _⟩ := besA_sym hu hv
    have e4 : b = 1 := e4
    rcases List.mem_append.mp hu' with q | q
    · obtain ⟨d, e1, e2, _⟩ := besA_sym hr q
      have e2 : a = 1 := e2
      rw [e1, e3] at z
      have := (Prod.mk.inj (Prod.mk.inj z).2).1
      have this : (0 : Nat) = a := this
      omega
    · obtain ⟨d, e1, e2, _⟩ := besB_sym q
      have e2 : a = 0 := e2
      rw [e1, e3] at z
      have := (Prod.mk.inj (Prod.mk.inj z).2).1
      have this : (1 : Nat) = a := this
      omega
  · intro u hu' v hv z
    obtain ⟨d', e3, e4, _⟩ := besB_sym hv
    have e4 : b = 0 := e4
    rcases List.mem_append.mp hu' with q | q
    · rcases List.mem_append.mp q with q | q
      · obtain ⟨d, e1, e2, _⟩ := besA_sym hr q
        have e2 : a = 1 := e2
        rw [e1, e3] at z
        have := (Prod.mk.inj (Prod.mk.inj z).2).1
        have this : (0 : Nat) = a := this
        omega
      · obtain ⟨d, e1, e2, _⟩ := besB_sym q
        have e2 : a = 0 := e2
        rw [e1, e3] at z
        have := (Prod.mk.inj (Prod.mk.inj z).2).1
        have this : (1 : Nat) = a := this
        omega
    · obtain ⟨d, e1, e2, _⟩ := besA_sym hu q
      have e2 : b = 1 := e2
      omega
theorem pt_sub (hr : Jn t.n t.rs) (hu : Jn t.n t.us) (hn : t.n ≤ 100) {c x : Cn} (hc : Vc t.n c) (hx : x ∈ ptOf t c) : ∀ y ∈ ptOf t x, y ∈ ptOf t c := by
  have w := pt_wk hr hu hn hc
  have wx := pt_wk hr hu hn (w.2.1 x hx)
  exact wx.2.2.2.2 (fun y => y ∈ ptOf t c) hx fun y hy z hz => w.2.2.2.1 y hy z hz
theorem pt_same (hr : Jn t.n t.rs) (hu : Jn t.n t.us) (hn : t.n ≤ 100) {c x : Cn} (hc : Vc t.n c) (hx : x ∈ ptOf t c) : ptOf t x = ptOf t c := by
  have w := pt_wk hr hu hn hc
  have back : c ∈ ptOf t x := (w.2.2.2.2 (fun z => Vc t.n z ∧ c ∈ ptOf t z) ⟨hc, w.2.2.1⟩ (fun z hz y hy => by
    have vy := bes_vc hr hu hz.1 hy
    have wy := pt_wk hr hu hn vy
    exact ⟨vy, pt_sub hr hu hn vy (wy.2.2.2.1 y wy.2.2.1 z (bes_sym hr hu hy)) c hz.2⟩) x hx).2
  have vx := w.2.1 x hx
  have wx := pt_wk hr hu hn vx
  have m : ∀ y, y ∈ ptOf t x ↔ y ∈ ptOf t c := fun y => ⟨pt_sub hr hu hn hc hx y, pt_sub hr hu hn vx back y⟩
  have up : ∀ {c}, Vc t.n c → (ptOf t c).Pairwise fun a b => dataLt (cnD a).py (cnD b).py = true := fun {c} hc => srtL_up (walkP_wk hr hu fuel [c] 0 (wk0 hc) (by show 4 * t.n < 1000000 + 0; omega)).nd
  exact up_eq enc_cn (up vx) (up hc) m
def hdC (p : List Cn) : Cn := p.headD (0, 0, 0)
theorem pt_head (hr : Jn t.n t.rs) (hu : Jn t.n t.us) (hn : t.n ≤ 100) {c : Cn} (hc : Vc t.n c) : ∃ r, ptOf t c = hdC (ptOf t c) :: r ∧ hdC (ptOf t c) ∈ ptOf t c ∧ ptOf t (hdC (ptOf t c)) = ptOf t c := by
  have w := pt_wk hr hu hn hc
  cases q : ptOf t c with
  | nil =>
    have := w.2.2.1
    rw [q] at this
    cases this
  | cons a l =>
    refine ⟨l, rfl, List.mem_cons_self, ?_⟩
    rw [← q]
    exact pt_same hr hu hn hc (by
      show hdC (ptOf t c) ∈ ptOf t c
      rw [q]
      exact List.mem_cons_self)
end
open PySem.W NS
structure Wt (N : Nat) (t : Tb) : Prop where
  n0 : 1 ≤ t.n
  n1 : t.n ≤ N
  m0 : 1 ≤ t.m
  m1 : t.m ≤ 4
  r : Jn t.n t.rs
  u : Jn t.n t.us
  dl : DlOk t.m (edgesOf t.n t.rs t.us) t.dl
  pk : ∀ p ∈ t.pk, ∃ c, Vc t.n c ∧ (ptOf t c).head? = some p.1
  pl : t.pk.length ≤ 4 * t.n
  pn : (t.pk.map Prod.fst).Nodup
theorem name_ok (B : Bg) (hB : Bag B) : ∃ (i : Fin 8) (B' : Bg), m_law_name [.bag] B = some (nmD i, B') ∧ Bag B' := by
  obtain ⟨i, d, B', e, hd, hB'⟩ := some_lst B hB ((List.finRange 8).map nmD) (by decide) (by decide)
  obtain ⟨j, _, rfl⟩ := List.mem_map.mp (List.mem_of_getElem? hd)
  exact ⟨j, B', fn_run rfl (ret_run (call_run (cons_run rfl (cons_run (lst_run (cons_run rfl (cons_run rfl (cons_run rfl (cons_run rfl (cons_run rfl (cons_run rfl (cons_run rfl (cons_run rfl rfl))))))))) rfl)) e)), hB'⟩
theorem lc_bag {α β γ : Type} {T : Tg} {fe : Ex} {ρ : Env} (g : α → D) (h : β → D) (f : α → γ) (f' : β → γ) : ∀ (as : List α) (B : Bg), (∀ a ∈ as, ∀ B, Bag B → ∃ ρ1 b B1, T (g a) ρ = some ρ1 ∧ fe ρ1 B = some (h b, B1) ∧ f' b = f a ∧ Bag B1) → Bag B →
    ∃ (bs : List β) (B' : Bg), lcGo T xYes fe (as.map g) ρ B = some (bs.map h, B') ∧ bs.map f' = as.map f ∧ Bag B'
  | [], B, _, hB => ⟨[], B, rfl, rfl, hB⟩
  | a :: as, B, st, hB => by
    obtain ⟨ρ1, b, B1, e1, e2, e3, hB1⟩ := st a List.mem_cons_self B hB
    obtain ⟨bs, B', e4, e5, hB'⟩ := lc_bag g h f f' as B1 (fun x hx => st x (List.mem_cons_of_mem _ hx)) hB1
    refine ⟨b :: bs, B', ?_, by rw [List.map_cons, List.map_cons, e3, e5], hB'⟩
    show (T (g a) ρ).bind _ = _
    rw [e1]
    show (fe ρ1 B).bind _ = _
    rw [e2]
    show (lcGo T xYes fe (as.map g) ρ B1).map _ = _
    rw [e4]
    rfl
theorem alike_pk (a b : Pk) : alike (pkD a).py (pkD b).py = true := rfl
def bareD (t : Tb) : D := tbD { t with pk := [] }
theorem nodup_map_on {α β : Type} {f : α → β} : ∀ {l : List α}, l.Nodup → (∀ x ∈ l, ∀ y ∈ l, f x = f y → x = y) → (l.map f).Nodup
  | [], _, _ => List.nodup_nil
  | a :: l, nd, h => by
    obtain ⟨h1, h2⟩ := List.nodup_cons.mp nd
    rw [List.map_cons, List.nodup_cons]
    refine ⟨fun q => ?_, nodup_map_on h2 fun x hx y hy => h x (List.mem_cons_of_mem _ hx) y (List.mem_cons_of_mem _ hy)⟩
    obtain ⟨y, hy, e⟩ := List.mem_map.mp q
    exact h1 (h a List.mem_cons_self y (List.mem_cons_of_mem _ hy) e.symm ▸ hy)
theorem table_ok (N : Nat) (h0 : 1 ≤ N) (hN : N ≤ 15) (B : Bg) (hB : Bag B) : ∃ (t : Tb) (B' : Bg), m_law_table [.bag, nN N] B = some (tbD t, B') ∧ Wt N t ∧ Bag B' := by
  obtain ⟨v, B1, e1, hv, hB1⟩ := take_n B hB N (by omega) (by omega)
  obtain ⟨m, B2, e2, hm, hB2⟩ := some_n B1 hB1 [1, 1, 2, 1, 3, 2, 4] (by simp) (by decide)
  have hm' : 1 ≤ m ∧ m ≤ 4 := by
    simp only [List.mem_cons, List.not_mem_nil, or_false] at hm
    omega
  obtain ⟨rs, us, B3, e3, jr, ju, hB3⟩ := joins_ok (1 + v) (by omega) (by omega) B2 hB2
  have lE := edgesOf_len (1 + v) rs us
  obtain ⟨dl, B4, e4, hd, hB4⟩ := dials_ok m hm'.1 (by omega) (edgesOf (1 + v) rs us) (edgesOf_nodup _ rs us) (by omega) B3 hB3
  let t0 : Tb := ⟨1 + v, m, rs, us, dl, []⟩
  obtain ⟨qs, e5, nd5, m5, _⟩ := points_ok t0 jr ju (by show 1 + v ≤ 15; omega) B4
  have lq : qs.length ≤ 4 * (1 + v) := by
    have : qs.length ≤ ((cornersOf (1 + v)).map (ptOf t0)).length := nodup_le nd5 fun q hq => by
      obtain ⟨c, hc, rfl⟩ := (m5 q).mp hq
      exact List.mem_map.mpr ⟨c, corners_mem.mpr hc, rfl⟩
    rw [List.length_map, corners_len] at this
    exact this
  obtain ⟨ws, B5, e6, p6, hB5⟩ := mixed_a ptT B4 hB4 qs (by omega)
  obtain ⟨k, B6, e7, hk, hB6⟩ := some_n B5 hB5 [1, 2, 0, 3, qs.length] (by simp) (by show 5 < 1000; decide)
  have sub := cut_sub ws none (some (k : Int))
  have inq : ∀ w ∈ cutL ws none (some (k : Int)), w ∈ qs := fun w hw => p6.mem_iff.mp (sub.mem hw)
  obtain ⟨pk, B7, e8, f8, hB7⟩ := lc_bag (T := tN 9) (fe := xTup (xCons (x2 gIx (xV 9) (xC (.int 0))) (xCons (xCall m_law_name (xCons (xV 0) xNil)) xNil))) (ρ := [some .bag, some (nN N), some (nN (1 + v)), some (nN m), some (.tn (rs.map oD)), some (.tn (us.map oD)), some (bareD t0), some (.lst (qs.map ptT)), some (.lst ((cutL ws none (some (k : Int))).map ptT)), none]) ptT pkD (fun q : List Cn => q.headD (0, 0, 0)) Prod.fst (cutL ws none (some (k : Int))) B6 (fun w hw B hB => by
    obtain ⟨c, hc, rfl⟩ := (m5 w).mp (inq w hw)
    have hin := (pt_wk jr ju (by show 1 + v ≤ 100; omega) hc).2.2.1
    obtain ⟨i, B', e, hB'⟩ := name_ok B hB
    refine ⟨_, ((ptOf t0 c).headD (0, 0, 0), i), B', rfl, tup_run (cons_run (x2_run rfl rfl ?_) (cons_run (call_run rfl e) rfl)), rfl, hB'⟩
    cases q : ptOf t0 c with
    | nil =>
      rw [q] at hin
      cases hin
    | cons a l => exact ix_tup (i := 0) rfl) hB6
  have lpk : pk.length ≤ 4 * (1 + v) := by
    have h1 : pk.length = (cutL ws none (some (k : Int))).length := by
      have := congrArg List.length f8
      rw [List.length_map, List.length_map] at this
      exact this
    have h2 := sub.length_le
    rw [p6.length_eq] at h2
    omega
  obtain ⟨pk', e9, p9⟩ := sort_a pkD pk (fun d _ => ⟨enc_pk.plain d, Nat.le_trans (enc_pk.low d) (by decide), rfl⟩) fun a _ b _ => alike_pk a b
  have g1 : xCons (x2 gAdd (xC (.int 1)) (xCall m_law_take (xCons (xV 0) (xCons (xV 1) xNil)))) (xCons (xCall m_law_some (xCons (xV 0) (xCons (xLst (xCons (xC (.int 1)) (xCons (xC (.int 1)) (xCons (xC (.int 2)) (xCons (xC (.int 1)) (xCons (xC (.int 3)) (xCons (xC (.int 2)) (xCons (xC (.int 4)) xNil)))))))) xNil))) xNil) [some .bag, some (nN N), none, none, none, none, none, none, none, none] B = some ([nN (1 + v), nN m], B2) :=
    cons_run (x2_run (x := nN 1) rfl (call_run rfl e1) (za 1 v)) (cons_run (call_run (cons_run rfl (cons_run (lst_run rfl) rfl)) e2) rfl)
  have g2 : xCall m_law_dials (xCons (xV 0) (xCons (xCall m_law_edges_of (xCons (xV 4) (xCons (xV 5) xNil))) (xCons (xV 3) xNil))) [some .bag, some (nN N), some (nN (1 + v)), some (nN m), some (.tn (rs.map oD)), some (.tn (us.map oD)), none, none, none, none] B3 = some (.tn (dl.map dlD), B4) :=
    call_run (cons_run rfl (cons_run (call_run rfl (edges_ok (1 + v) (by omega) rs us jr.len B3)) (cons_run rfl rfl))) e4
  have g3 : xTup (xCons (xV 2) (xCons (xV 3) (xCons (xV 4) (xCons (xV 5) (xCons (xCall m_law_dials (xCons (xV 0) (xCons (xCall m_law_edges_of (xCons (xV 4) (xCons (xV 5) xNil))) (xCons (xV 3) xNil)))) (xCons (xTupN xNil) xNil)))))) [some .bag, some (nN N), some (nN (1 + v)), some (nN m), some (.tn (rs.map oD)), some (.tn (us.map oD)), none, none, none, none] B3 = some (bareD t0, B4) :=
    tup_run (cons_run rfl (cons_run rfl (cons_run rfl (cons_run rfl (cons_run g2 (cons_run rfl rfl))))))
  have g4 : xSl gSl (xCall m_law_mixed (xCons (xV 0) (xCons (xV 7) xNil))) xPn (xPs (xCall m_law_some (xCons (xV 0) (xCons (xLst (xCons (xC (.int 1)) (xCons (xC (.int 2)) (xCons (xC (.int 0)) (xCons (xC (.int 3)) (xCons (x1 gLen (xV 7)) xNil)))))) xNil)))) [some .bag, some (nN N), some (nN (1 + v)), some (nN m), some (.tn (rs.map oD)), some (.tn (us.map oD)), some (bareD t0), some (.lst (qs.map ptT)), none, none] B4 = some (.lst ((cutL ws none (some (k : Int))).map ptT), B6) := by
    refine sl_to (k := (k : Int)) (call_run rfl e6) (call_run (cons_run rfl (cons_run (lst_run (cons_run rfl (cons_run rfl (cons_run rfl (cons_run rfl (cons_run (x1_run rfl (d := nN qs.length) ?_) rfl)))))) rfl)) e7) ?_
    · show some (D.int ((qs.map ptT).length : Nat)) = _
      rw [List.length_map]
      rfl
    · show some (D.lst (cutL (ws.map ptT) none (some (k : Int)))) = _
      rw [cut_map]
  have g5 : xLC [9] (tN 9) (xIt (xV 8)) xYes (xTup (xCons (x2 gIx (xV 9) (xC (.int 0))) (xCons (xCall m_law_name (xCons (xV 0) xNil)) xNil))) [some .bag, some (nN N), some (nN (1 + v)), some (nN m), some (.tn (rs.map oD)), some (.tn (us.map oD)), some (bareD t0), some (.lst (qs.map ptT)), some (.lst ((cutL ws none (some (k : Int))).map ptT)), none] B6 = some (.lst (pk.map pkD), B7) :=
    lc_run rfl e8 (by rw [List.length_map]; exact len_small (by omega))
  have g6 : xSl gSl (xV 6) xPn (xPs (xC (.int 5))) [some .bag, some (nN N), some (nN (1 + v)), some (nN m), some (.tn (rs.map oD)), some (.tn (us.map oD)), some (bareD t0), some (.lst (qs.map ptT)), some (.lst ((cutL ws none (some (k : Int))).map ptT)), none] B6 = some (.tup [nN (1 + v), nN m, .tn (rs.map oD), .tn (us.map oD), .tn (dl.map dlD)], B6) := sl_to rfl rfl rfl
  refine ⟨⟨1 + v, m, rs, us, dl, pk'⟩, B7, fn_run rfl (seq_nx (par_run g1) (seq_nx (unp_run (call_run rfl e3) rfl) (seq_nx (set_run g3) (seq_nx (set_run (call_run rfl (e5 B4))) (seq_nx (set_run g4) (ret_run (x2_run g6 (tup_run (cons_run (x1_run (x1_run g5 e9) rfl) rfl)) (gAdd_tup (by show 5 + 1 ≤ _; decide))))))))), ⟨by show 1 ≤ 1 + v; omega, by show 1 + v ≤ N; omega, hm'.1, hm'.2, jr, ju, hd, fun p hp => ?_, ?_, ?_⟩, hB7⟩
  · have hp := p9.mem_iff.mp hp
    have : p.1 ∈ (cutL ws none (some (k : Int))).map fun q : List Cn => q.headD (0, 0, 0) := f8 ▸ List.mem_map.mpr ⟨p, hp, rfl⟩
    obtain ⟨w, hw, ew⟩ := List.mem_map.mp this
    obtain ⟨c, hc, rfl⟩ := (m5 w).mp (inq w hw)
    have hin := (pt_wk jr ju (by show 1 + v ≤ 100; omega) hc).2.2.1
    refine ⟨c, hc, ?_⟩
    have cg : ptOf ⟨1 + v, m, rs, us, dl, pk'⟩ c = ptOf t0 c := ptOf_cong (t := ⟨1 + v, m, rs, us, dl, pk'⟩) (t' := t0) rfl c
    rw [cg]
    cases q : ptOf t0 c with
    | nil =>
      rw [q] at hin
      cases hin
    | cons a l =>
      rw [q] at ew
      exact congrArg some ew
  · show pk'.length ≤ _
    rw [p9.length_eq]
    exact lpk
  · show (pk'.map Prod.fst).Nodup
    rw [(p9.map Prod.fst).nodup_iff, f8]
    have nd : (cutL ws none (some (k : Int))).Nodup := sub.nodup (p6.nodup_iff.mpr nd5)
    refine nodup_map_on nd fun p hp q hq e => ?_
    obtain ⟨c, hc, rfl⟩ := (m5 p).mp (inq p hp)
    obtain ⟨d, hd', rfl⟩ := (m5 q).mp (inq q hq)
    have n15 : t0.n ≤ 100 := by show 1 + v ≤ 100; omega
    obtain ⟨_, _, _, s1⟩ := pt_head (t := t0) jr ju n15 hc
    obtain ⟨_, _, _, s2⟩ := pt_head (t := t0) jr ju n15 hd'
    rw [← s1, ← s2]
    exact congrArg (ptOf t0) e
theorem nice_tn {k n m : Nat} {ds : List D} (h : ∀ d ∈ ds, Nice k n d) (hm : ds.length ≤ m) : Nice (k + 1) (m * (n + 2) + 3) (.tn ds) := by
  have q := nice_tup h hm
  exact ⟨q.plain, q.lay, q.show_, q.depth, q.len⟩
theorem nice_n {i : Nat} (h : i < 300) : Nice 0 3 (nN i) := nice_int (by omega) (by omega)
theorem nice_o {n : Nat} (hn : n < 300) {os : List (Option Nat)} (h : Jn n os) : Nice 1 (n * 6 + 3) (.tn (os.map oD)) := nice_tn (k := 0) (n := 4) (fun d hd => by
  obtain ⟨o, ho, rfl⟩ := List.mem_map.mp hd
  cases o with
  | none => exact nice_non
  | some c => exact (nice_n (by have := h.low c ho; omega)).mono (Nat.le_refl _) (by decide)) (by rw [List.length_map, h.len]; exact Nat.le_refl _)
theorem nice_sd : ∀ s : Sd, Nice 0 10 (sdD s)
  | .down => nice_str (by decide +kernel) (by decide +kernel)
  | .left => nice_str (by decide +kernel) (by decide +kernel)
  | .right => nice_str (by decide +kernel) (by decide +kernel)
  | .up => nice_str (by decide +kernel) (by decide +kernel)
theorem nice_nm (i : Fin 8) : Nice 0 20 (nmD i) := nice_str (by revert i; decide +kernel) (by revert i; decide +kernel)
theorem nice2 {k n : Nat} {a b : D} (ha : Nice k n a) (hb : Nice k n b) : Nice (k + 1) (2 * (n + 2) + 3) (.tup [a, b]) := nice_tup (m := 2) (fun d hd => by
  rcases List.mem_cons.mp hd with rfl | hd
  · exact ha
  · rw [List.mem_singleton.mp hd]
    exact hb) (Nat.le_refl _)
theorem nice_ed {e : Ed} (h : e.2 < 300) : Nice 1 27 (edD e) := nice2 (nice_sd e.1) ((nice_n h).mono (Nat.le_refl _) (by decide))
theorem nice_p {p : List Nat} {m : Nat} (hl : p.length ≤ m) (h : ∀ x ∈ p, x < 300) : Nice 1 (m * 5 + 3) (.tn (p.map nN)) := nice_tn (k := 0) (n := 3) (fun d hd => by
  obtain ⟨x, hx, rfl⟩ := List.mem_map.mp hd
  exact nice_n (h x hx)) (by rw [List.length_map]; exact hl)
theorem nice_cn {c : Cn} (h : c.1 < 300 ∧ c.2.1 < 300 ∧ c.2.2 < 300) : Nice 1 18 (cnD c) := nice_tup (k := 0) (n := 3) (m := 3) (fun d hd => by
  simp only [List.mem_cons, List.not_mem_nil, or_false] at hd
  rcases hd with rfl | rfl | rfl
  · exact nice_n h.1
  · exact nice_n h.2.1
  · exact nice_n h.2.2) (Nat.le_refl _)
theorem Wt.pkv {N : Nat} {t : Tb} (h : Wt N t) (hN : N ≤ 100) {p : Pk} (hp : p ∈ t.pk) : Vc t.n p.1 := by
  obtain ⟨c, hc, e⟩ := h.pk p hp
  refine (pt_wk h.r h.u (by have := h.n1; omega) hc).2.1 p.1 ?_
  cases q : ptOf t c with
  | nil =>
    rw [q] at e
    cases e
  | cons a l =>
    rw [q] at e
    have e : a = p.1 := Option.some.inj e
    rw [e]
    exact List.mem_cons_self
theorem nice_tb {N : Nat} (hN : N ≤ 15) {t : Tb} (h : Wt N t) : Nice 4 28000 (tbD t) := by
  have n1 := h.n1
  have m1 := h.m1
  have o1 := (nice_o (by omega) h.r).mono (k' := 3) (n' := 4083) (by decide) (by omega)
  have o2 := (nice_o (by omega) h.u).mono (k' := 3) (n' := 4083) (by decide) (by omega)
  have d1 : Nice 3 4083 (.tn (t.dl.map dlD)) := (nice_tn (k := 2) (n := 61) (m := 60) (fun d hd => by
    obtain ⟨x, hx, rfl⟩ := List.mem_map.mp hd
    obtain ⟨q1, q2⟩ := h.dl.at_ x hx
    have := (edgesOf_mem.mp q1).1
    exact nice2 ((nice_ed (by omega)).mono (k' := 1) (n' := 27) (by decide) (by decide)) ((nice_p (m := 4) (by rw [q2.len]; exact m1) fun y hy => by have := q2.low y hy; omega).mono (k' := 1) (n' := 27) (by decide) (by decide))) (by
      rw [List.length_map]
      have := h.dl.len
      have := edgesOf_len t.n t.rs t.us
      omega)).mono (by decide) (by decide)
  have k1 : Nice 3 4083 (.tn (t.pk.map pkD)) := (nice_tn (k := 2) (n := 47) (m := 60) (fun d hd => by
    obtain ⟨x, hx, rfl⟩ := List.mem_map.mp hd
    obtain ⟨v1, v2, v3⟩ := h.pkv (by omega) hx
    exact nice2 ((nice_cn ⟨by omega, by omega, by omega⟩).mono (k' := 1) (n' := 20) (by decide) (by decide)) ((nice_nm x.2).mono (by decide) (by decide))) (by
      rw [List.length_map]
      have := h.pl
      omega)).mono (by decide) (by decide)
  refine (nice_tup (k := 3) (n := 4083) (m := 6) (fun d hd => ?_) (Nat.le_refl _)).mono (by decide) (by decide)
  simp only [List.mem_cons, List.not_mem_nil, or_false] at hd
  rcases hd with rfl | rfl | rfl | rfl | rfl | rfl
  · exact (nice_n (by omega)).mono (by decide) (by decide)
  · exact (nice_n (by omega)).mono (by decide) (by decide)
  · exact o1
  · exact o2
  · exact d1
  · exact k1
theorem told_tb {N : Nat} (hN : N ≤ 15) {t : Tb} (h : Wt N t) : gRepr (tbD t) = some (.str (tbD t).py.shown) := gRepr_tup (nice_tb hN h) (by decide) (len_small (by decide))
theorem ne_self (x : Str) : gNe (.str x) (.str x) = some (.bl false) := by
  rw [gNe_text, beq_self_eq_true]
  rfl
theorem alikeL {k n : Nat} {ds : List D} (B : Bg) (h : Nice k n (.lst ds)) (hk : k < 64) (hn : n ≤ 1000000) : m_law_alike [.lst ds, .lst ds] B = some (.bl true, B) := by
  have e : gRepr (.lst ds) = some (.str (D.lst ds).py.shown) := by
    have e : showOk (.lst ds) = true := by
      unfold showOk
      rw [h.plain, h.show_, decide_eq_true (Nat.lt_of_le_of_lt h.depth hk), decide_eq_true (Nat.le_trans h.len (len_small hn))]
      rfl
    exact if_pos e
  refine fn_run rfl (ret_run (and_t (x2_run rfl rfl (gEq_nice h (Nat.le_of_lt hk))) (x2_run (x1_run rfl (by first | exact e | exact gReprB_of e | exact gReprK_of e)) (x1_run rfl (by first | exact e | exact gReprB_of e | exact gReprK_of e)) ?_)))
  rw [gEq_text, beq_self_eq_true]
theorem alikeN {k n : Nat} {ds : List D} (B : Bg) (h : Nice k n (.tn ds)) (hk : k < 64) (hn : n ≤ 1000000) : m_law_alike [.tn ds, .tn ds] B = some (.bl true, B) := by
  have e : gRepr (.tn ds) = some (.str (D.tn ds).py.shown) := by
    have e : showOk (.tn ds) = true := by
      unfold showOk
      rw [h.plain, h.show_, decide_eq_true (Nat.lt_of_le_of_lt h.depth hk), decide_eq_true (Nat.le_trans h.len (len_small hn))]
      rfl
    exact if_pos e
  refine fn_run rfl (ret_run (and_t (x2_run rfl rfl (gEq_nice h (Nat.le_of_lt hk))) (x2_run (x1_run rfl (by first | exact e | exact gReprB_of e | exact gReprK_of e)) (x1_run rfl (by first | exact e | exact gReprB_of e | exact gReprK_of e)) ?_)))
  rw [gEq_text, beq_self_eq_true]
def Vl (t : Tb) (l : Lb) : Prop := l.1 < t.n ∧ l.2.1 ≤ 1 ∧ l.2.2.1 ≤ 1 ∧ l.2.2.2 < t.m
def labAt (m : Nat) (c : Cn) : List Lb := (List.range m).map fun k => (c.1, c.2.1, c.2.2, k)
def labelsOf (t : Tb) : List Lb := (cornersOf t.n).flatMap (labAt t.m)
theorem labels_mem {t : Tb} {l : Lb} : l ∈ labelsOf t ↔ Vl t l := by
  obtain ⟨c, x, y, k⟩ := l
  unfold labelsOf Vl labAt
  rw [List.mem_flatMap]
  constructor
  · rintro ⟨d, hd, h⟩
    obtain ⟨k', hk, e⟩ := List.mem_map.mp h
    cases e
    have hk := List.mem_range.mp hk
    obtain ⟨v1, v2, v3⟩ := corners_mem.mp hd
    exact ⟨v1, v2, v3, hk⟩
  · rintro ⟨h1, h2, h3, h4⟩
    exact ⟨(c, x, y), corners_mem.mpr ⟨h1, h2, h3⟩, List.mem_map.mpr ⟨k, List.mem_range.mpr h4, rfl⟩⟩
theorem labels_len (t : Tb) : (labelsOf t).length = t.m * (4 * t.n) := by
  unfold labelsOf
  rw [flat_len (labAt t.m) t.m (fun c => by unfold labAt; rw [List.length_map, List.length_range]), corners_len]
theorem law_labels_ok (t : Tb) (hn : t.n ≤ 100) (hm : t.m ≤ 100) (B : Bg) : m_law_labels [tbD t] B = some (.lst ((labelsOf t).map lbD), B) := by
  obtain ⟨ρ', B', e, r2, rfl, _, hB⟩ := forGo_map (T := tN 2) (body := (sMut 1 gExt (xLC [3] (tN 3) (xRng1 (x2 gIx (xV 0) (xC (.int 1)))) xYes (x2 gAdd (xV 2) (xTup (xCons (xV 3) xNil)))))) cnD
    (fun done rest ρ B' => ∃ (r2 : Option D), ρ = [some (tbD t), some (.lst ((done.flatMap (labAt t.m)).map lbD)), r2, none] ∧ done.length + rest.length ≤ 400 ∧ B' = B)
    (fun done c rest ρ B' ⟨r2, h3, h4, h5⟩ => by
      subst h3
      rw [List.length_cons] at h4
      have lc : xLC [3] (tN 3) (xRng1 (x2 gIx (xV 0) (xC (.int 1)))) xYes (x2 gAdd (xV 2) (xTup (xCons (xV 3) xNil))) [some (tbD t), some (.lst ((done.flatMap (labAt t.m)).map lbD)), some (cnD c), none] B' = some (.lst ((labAt t.m c).map lbD), B') := by
        unfold labAt
        rw [List.map_map]
        refine lc_run (rgT (n := t.m) (by omega) rfl) (lc_mp nN (lbD ∘ fun k => (c.1, c.2.1, c.2.2, k)) (List.range t.m) fun k hk => ⟨_, rfl, x2_run rfl rfl (gAdd_tup (by show 3 + 1 ≤ _; decide))⟩) ?_
        rw [List.length_map, List.length_range]
        exact len_small (by omega)
      refine ⟨_, _, B', rfl, mut_run (es := ((done ++ [c]).flatMap (labAt t.m)).map lbD) lc rfl ?_, some (cnD c), rfl, ?_, h5⟩
      · rw [gExt_run]
        · rw [List.flatMap_append, List.map_append, List.flatMap_cons, List.flatMap_nil, List.append_nil]
        · have := flat_len (labAt t.m) t.m (fun c => by unfold labAt; rw [List.length_map, List.length_range]) done
          rw [List.length_map, this, List.length_map]
          have h6 : (labAt t.m c).length = t.m := by unfold labAt; rw [List.length_map, List.length_range]
          rw [h6]
          have : t.m * done.length ≤ 100 * 400 := Nat.mul_le_mul hm (by omega)
          omega
      · rw [List.length_append, List.length_singleton]
        omega)
    (cornersOf t.n) [] [some (tbD t), some (.lst []), none, none] B ⟨none, rfl, by rw [List.length_nil, corners_len]; omega, rfl⟩
  obtain rfl : B = B' := hB.symm
  exact fn_run rfl (seq_nx (set_run rfl) (seq_nx (for_run (it_run (call_run rfl (corners_ok t hn B)) rfl) e) (ret_run rfl)))
def permOf (t : Tb) (e : Ed) : List Nat := (lookB t.dl e none).getD (List.range t.m)
def hdA (t : Tb) (b : Bool) : List (Option Nat) := if b then t.us else t.rs
def wdA (b : Bool) : Sd := if b then .up else .right
def odA (b : Bool) : Sd := if b then .down else .left
def eda (t : Tb) (b : Bool) (c s : Nat) : Ed × Option Nat :=
  if s = 0 then ((wdA b, c), (hdA t b).getD c none)
  else if some c ∈ hdA t b then ((wdA b, ixOf (some c) (hdA t b)), some (ixOf (some c) (hdA t b)))
  else ((odA b, c), none)
def stp (t : Tb) (b : Bool) (c s k : Nat) : Nat × Nat × Nat := match (eda t b c s).2 with
  | some d => (d, s, at0 (permOf t (eda t b c s).1) k)
  | none => (c, 1 - s, at0 (permOf t (eda t b c s).1) k)
def bkw (t : Tb) (b : Bool) (c s k : Nat) : Nat × Nat × Nat := match (eda t b c (1 - s)).2 with
  | some d => (d, s, ixOf k (permOf t (eda t b c (1 - s)).1))
  | none => (c, 1 - s, ixOf k (permOf t (eda t b c (1 - s)).1))
def axis (b : Bool) (l : Lb) : Nat := if b then l.2.2.1 else l.2.1
def put (b : Bool) (l : Lb) (r : Nat × Nat × Nat) : Lb := if b then (r.1, l.2.1, r.2.1, r.2.2) else (r.1, r.2.1, l.2.2.1, r.2.2)
def go (t : Tb) (b : Bool) (l : Lb) : Lb := put b l (stp t b l.1 (axis b l) l.2.2.2)
def came (t : Tb) (b : Bool) (l : Lb) : Lb := put b l (bkw t b l.1 (axis b l) l.2.2.2)
section
variable {N : Nat} {t : Tb}
end
section
variable {N : Nat} {t : Tb}
end
section
variable {N : Nat} {t : Tb}
end
section
variable {t : Tb}
theorem besideP_ok (t : Tb) (hr : Jn t.n t.rs) (hu : Jn t.n t.us) (c : Cn) (hc : c.1 < t.n) (B : Bg) : m_beside [.tn (t.rs.map oD), .tn (t.us.map oD), cnD c] B = some (.lst ((bes t c).map cnD), B) := by
  obtain ⟨c, x, y⟩ := c
  obtain ⟨o, ho⟩ := jn_get hr hc
  obtain ⟨p, hp⟩ := jn_get hu hc
  have gA : ∀ (xs : List Cn) (z : Cn), xs.length ≤ 10 → gApp (xs.map cnD) (cnD z) = some ((xs ++ [z]).map cnD) := fun xs z h => by
    refine (if_pos ?_).trans ?_
    · rw [List.length_map]
      exact Nat.lt_of_lt_of_le (by omega) (len_small (n := 100) (by decide))
    · rw [List.map_append]
      rfl
  have q1 : ∀ xs : List Cn, x2 gIx (xV 0) (xV 3) [some (.tn (t.rs.map oD)), some (.tn (t.us.map oD)), some (cnD (c, x, y)), some (nN c), some (nN x), some (nN y), some (.lst (xs.map cnD))] B = some (oD o, B) := fun xs => x2_run rfl rfl (ix_tn (map_get ho))
  have q2 : ∀ xs : List Cn, x2 gIx (xV 1) (xV 3) [some (.tn (t.rs.map oD)), some (.tn (t.us.map oD)), some (cnD (c, x, y)), some (nN c), some (nN x), some (nN y), some (.lst (xs.map cnD))] B = some (oD p, B) := fun xs => x2_run rfl rfl (ix_tn (map_get hp))
  have s1 : (sIf (xAnd (x2 gEq (xV 4) (xC (.int 1))) (x2 gIsNot (x2 gIx (xV 0) (xV 3)) (xC .non))) (sMut 6 gApp (xTup (xCons (x2 gIx (xV 0) (xV 3)) (xCons (xC (.int 0)) (xCons (xV 5) xNil))))) sNil) [some (.tn (t.rs.map oD)), some (.tn (t.us.map oD)), some (cnD (c, x, y)), some (nN c), some (nN x), some (nN y), some (.lst (([] : List Cn).map cnD))] B = some (.nx [some (.tn (t.rs.map oD)), some (.tn (t.us.map oD)), some (cnD (c, x, y)), some (nN c), some (nN x), some (nN y), some (.lst ((besA t.rs c x (fun d i => (d, i, y))).map cnD))], B) := by
    have c1 : x2 gEq (xV 4) (xC (.int 1)) [some (.tn (t.rs.map oD)), some (.tn (t.us.map oD)), some (cnD (c, x, y)), some (nN c), some (nN x), some (nN y), some (.lst (([] : List Cn).map cnD))] B = some (.bl (decide (x = 1)), B) := x2_run rfl rfl (z_eq x 1)
    have c2 := x2_run (u := gIsNot) (q1 []) (rfl : xC .non _ B = some (.non, B)) (isNot_oD o)
    unfold besA
    rw [getD_of ho]
    by_cases h : x = 1
    · rw [decide_eq_true h] at c1
      rw [if_pos h]
      cases o with
      | none => exact if_f (and_t c1 c2) rfl
      | some d => exact if_t (and_t c1 c2) ((mut_run (tup_run (cons_run (q1 []) (cons_run rfl (cons_run rfl rfl)))) rfl (gA [] (d, 0, y) (by decide))).trans rfl)
    · rw [decide_eq_false h] at c1
      rw [if_neg h]
      exact if_f (and_f c1) rfl
  have s2 : ∀ xs : List Cn, xs.length ≤ 1 → (sIf (xAnd (x2 gEq (xV 4) (xC (.int 0))) (x2 (gInA true) (xV 3) (xV 0))) (sMut 6 gApp (xTup (xCons (x2 gIdx (xV 0) (xV 3)) (xCons (xC (.int 1)) (xCons (xV 5) xNil))))) sNil) [some (.tn (t.rs.map oD)), some (.tn (t.us.map oD)), some (cnD (c, x, y)), some (nN c), some (nN x), some (nN y), some (.lst (xs.map cnD))] B = some (.nx [some (.tn (t.rs.map oD)), some (.tn (t.us.map oD)), some (cnD (c, x, y)), some (nN c), some (nN x), some (nN y), some (.lst ((xs ++ besB t.rs c x (fun d i => (d, i, y))).map cnD))], B) := by
    intro xs hl
    have c1 : x2 gEq (xV 4) (xC (.int 0)) [some (.tn (t.rs.map oD)), some (.tn (t.us.map oD)), some (cnD (c, x, y)), some (nN c), some (nN x), some (nN y), some (.lst (xs.map cnD))] B = some (.bl (decide (x = 0)), B) := x2_run rfl rfl (z_eq x 0)
    have c2 : x2 (gInA true) (xV 3) (xV 0) [some (.tn (t.rs.map oD)), some (.tn (t.us.map oD)), some (cnD (c, x, y)), some (nN c), some (nN x), some (nN y), some (.lst (xs.map cnD))] B = some (.bl (decide (some c ∈ t.rs)), B) := x2_run rfl rfl (enc_oD.yN (by decide) (some c) t.rs)
    unfold besB
    by_cases h : x = 0
    · rw [decide_eq_true h] at c1
      by_cases h2 : some c ∈ t.rs
      · rw [decide_eq_true h2] at c2
        rw [if_pos ⟨h, h2⟩]
        exact if_t (and_t c1 c2) ((mut_run (tup_run (cons_run (x2_run rfl rfl (enc_oD.idxN (by decide) h2)) (cons_run rfl (cons_run rfl rfl)))) rfl (gA xs (ixOf (some c) t.rs, 1, y) (by omega))).trans rfl)
      · rw [decide_eq_false h2] at c2
        rw [if_neg fun z => h2 z.2, List.append_nil]
        exact if_f (and_t c1 c2) rfl
    · rw [decide_eq_false h] at c1
      rw [if_neg fun z => h z.1, List.append_nil]
      exact if_f (and_f c1) rfl
  have s3 : ∀ xs : List Cn, xs.length ≤ 2 → (sIf (xAnd (x2 gEq (xV 5) (xC (.int 1))) (x2 gIsNot (x2 gIx (xV 1) (xV 3)) (xC .non))) (sMut 6 gApp (xTup (xCons (x2 gIx (xV 1) (xV 3)) (xCons (xV 4) (xCons (xC (.int 0)) xNil))))) sNil) [some (.tn (t.rs.map oD)), some (.tn (t.us.map oD)), some (cnD (c, x, y)), some (nN c), some (nN x), some (nN y), some (.lst (xs.map cnD))] B = some (.nx [some (.tn (t.rs.map oD)), some (.tn (t.us.map oD)), some (cnD (c, x, y)), some (nN c), some (nN x), some (nN y), some (.lst ((xs ++ besA t.us c y (fun d i => (d, x, i))).map cnD))], B) := by
    intro xs hl
    have c1 : x2 gEq (xV 5) (xC (.int 1)) [some (.tn (t.rs.map oD)), some (.tn (t.us.map oD)), some (cnD (c, x, y)), some (nN c), some (nN x), some (nN y), some (.lst (xs.map cnD))] B = some (.bl (decide (y = 1)), B) := x2_run rfl rfl (z_eq y 1)
    have c2 := x2_run (u := gIsNot) (q2 xs) (rfl : xC .non _ B = some (.non, B)) (isNot_oD p)
    unfold besA
    rw [getD_of hp]
    by_cases h : y = 1
    · rw [decide_eq_true h] at c1
      rw [if_pos h]
      cases p with
      | none =>
        rw [List.append_nil]
        exact if_f (and_t c1 c2) rfl
      | some d => exact if_t (and_t c1 c2) ((mut_run (tup_run (cons_run (q2 xs) (cons_run rfl (cons_run rfl rfl)))) rfl (gA xs (d, x, 0) (by omega))).trans rfl)
    · rw [decide_eq_false h] at c1
      rw [if_neg h, List.append_nil]
      exact if_f (and_f c1) rfl
  have s4 : ∀ xs : List Cn, xs.length ≤ 3 → (sIf (xAnd (x2 gEq (xV 5) (xC (.int 0))) (x2 (gInA true) (xV 3) (xV 1))) (sMut 6 gApp (xTup (xCons (x2 gIdx (xV 1) (xV 3)) (xCons (xV 4) (xCons (xC (.int 1)) xNil))))) sNil) [some (.tn (t.rs.map oD)), some (.tn (t.us.map oD)), some (cnD (c, x, y)), some (nN c), some (nN x), some (nN y), some (.lst (xs.map cnD))] B = some (.nx [some (.tn (t.rs.map oD)), some (.tn (t.us.map oD)), some (cnD (c, x, y)), some (nN c), some (nN x), some (nN y), some (.lst ((xs ++ besB t.us c y (fun d i => (d, x, i))).map cnD))], B) := by
    intro xs hl
    have c1 : x2 gEq (xV 5) (xC (.int 0)) [some (.tn (t.rs.map oD)), some (.tn (t.us.map oD)), some (cnD (c, x, y)), some (nN c), some (nN x), some (nN y), some (.lst (xs.map cnD))] B = some (.bl (decide (y = 0)), B) := x2_run rfl rfl (z_eq y 0)
    have c2 : x2 (gInA true) (xV 3) (xV 1) [some (.tn (t.rs.map oD)), some (.tn (t.us.map oD)), some (cnD (c, x, y)), some (nN c), some (nN x), some (nN y), some (.lst (xs.map cnD))] B = some (.bl (decide (some c ∈ t.us)), B) := x2_run rfl rfl (enc_oD.yN (by decide) (some c) t.us)
    unfold besB
    by_cases h : y = 0
    · rw [decide_eq_true h] at c1
      by_cases h2 : some c ∈ t.us
      · rw [decide_eq_true h2] at c2
        rw [if_pos ⟨h, h2⟩]
        exact if_t (and_t c1 c2) ((mut_run (tup_run (cons_run (x2_run rfl rfl (enc_oD.idxN (by decide) h2)) (cons_run rfl (cons_run rfl rfl)))) rfl (gA xs (ixOf (some c) t.us, x, 1) (by omega))).trans rfl)
      · rw [decide_eq_false h2] at c2
        rw [if_neg fun z => h2 z.2, List.append_nil]
        exact if_f (and_t c1 c2) rfl
    · rw [decide_eq_false h] at c1
      rw [if_neg fun z => h z.1, List.append_nil]
      exact if_f (and_f c1) rfl
  have l1 := besA_len t.rs c x (fun d i => (d, i, y))
  have l2 := besB_len t.rs c x (fun d i => (d, i, y))
  have l3 := besA_len t.us c y (fun d i => (d, x, i))
  exact fn_run rfl (seq_nx (unp_run rfl rfl) (seq_nx (set_run rfl) (seq_nx s1 (seq_nx (s2 _ l1) (seq_nx (s3 _ (by rw [List.length_append]; omega)) (seq_nx (s4 _ (by rw [List.length_append, List.length_append]; omega)) (ret_run rfl)))))))
def moreQ (t : Tb) (found : List Cn) (c : Cn) : List Cn := (bes t c).filter fun y => !decide (y ∈ found)
def walkQ (t : Tb) : Nat → List Cn → Nat → List Cn
  | 0, found, _ => found
  | f + 1, found, i => match found[i]? with
    | none => found
    | some c => walkQ t f (found ++ moreQ t found c) (i + 1)
theorem moreQ_mem {t : Tb} {found : List Cn} {c x : Cn} : x ∈ moreQ t found c ↔ x ∈ bes t c ∧ x ∉ found := by
  unfold moreQ
  rw [List.mem_filter]
  simp
theorem Wk.stepQ (hr : Jn t.n t.rs) (hu : Jn t.n t.us) {c0 : Cn} {found : List Cn} {i : Nat} (h : Wk t c0 found i) {c : Cn} (hc : found[i]? = some c) : Wk t c0 (found ++ moreQ t found c) (i + 1) where
  nd := List.nodup_append.mpr ⟨h.nd, (bes_nodup hr hu c).filter _, fun a ha b hb z => (moreQ_mem.mp hb).2 (z ▸ ha)⟩
  vc := fun x hx => by
    rcases List.mem_append.mp hx with hx | hx
    · exact h.vc x hx
    · exact bes_vc hr hu (h.vc c (List.mem_of_getElem? hc)) (moreQ_mem.mp hx).1
  st := List.mem_append_left _ h.st
  cl := fun j x hj hx y hy => by
    have lt : i < found.length := (List.getElem?_eq_some_iff.mp hc).1
    rw [List.getElem?_append_left (by omega)] at hx
    by_cases e : j = i
    · subst e
      rw [hc] at hx
      cases hx
      by_cases m : y ∈ found
      · exact List.mem_append_left _ m
      · exact List.mem_append_right _ (moreQ_mem.mpr ⟨hy, m⟩)
    · exact List.mem_append_left _ (h.cl j x (by omega) hx y hy)
  mn := fun S h0 hs x hx => by
    rcases List.mem_append.mp hx with hx | hx
    · exact h.mn S h0 hs x hx
    · exact hs c (h.mn S h0 hs c (List.mem_of_getElem? hc)) x (moreQ_mem.mp hx).1
theorem walkQ_wk (hr : Jn t.n t.rs) (hu : Jn t.n t.us) {c0 : Cn} : ∀ (f : Nat) (found : List Cn) (i : Nat), Wk t c0 found i → 4 * t.n < f + i → Wk t c0 (walkQ t f found i) (walkQ t f found i).length
  | 0, found, i, h, hf => by
    show Wk t c0 found found.length
    exact ⟨h.nd, h.vc, h.st, fun j x hj hx => h.cl j x (by have := h.len; omega) hx, h.mn⟩
  | f + 1, found, i, h, hf => by
    unfold walkQ
    cases e : found[i]? with
    | none =>
      show Wk t c0 found found.length
      exact ⟨h.nd, h.vc, h.st, fun j x hj hx => h.cl j x (by have := List.getElem?_eq_none_iff.mp e; omega) hx, h.mn⟩
    | some c => exact walkQ_wk hr hu f _ (i + 1) (h.stepQ hr hu e) (by omega)
def pqC : Ex := x2 gLt (xV 4) (x1 gLen (xV 3))
def pqB : Sx := (sSeq (sMut 3 gExt (xLC [5] (tN 5) (xIt (xCall m_beside (xCons (xV 0) (xCons (xV 1) (xCons (x2 gIx (xV 3) (xV 4)) xNil))))) (x2 (gInA false) (xV 5) (xV 3)) (xV 5))) (sAug 4 (gInt2 fun i j => i + j) (xC (.int 1))))
theorem pq_step (t : Tb) (hr : Jn t.n t.rs) (hu : Jn t.n t.us) (c0 : Cn) (found : List Cn) (i : Nat) (hl : found.length ≤ 1000) (c : Cn) (hc : found[i]? = some c) (hv : c.1 < t.n) (r5 : Option D) (B : Bg) :
    pqB [some (.tn (t.rs.map oD)), some (.tn (t.us.map oD)), some (cnD c0), some (.lst (found.map cnD)), some (nN i), r5] B = some (.nx [some (.tn (t.rs.map oD)), some (.tn (t.us.map oD)), some (cnD c0), some (.lst ((found ++ moreQ t found c).map cnD)), some (nN (i + 1)), r5], B) := by
  have l2 : (moreQ t found c).length ≤ 4 := Nat.le_trans (filter_len _ _) (bes_len t c)
  have e2 : xLC [5] (tN 5) (xIt (xCall m_beside (xCons (xV 0) (xCons (xV 1) (xCons (x2 gIx (xV 3) (xV 4)) xNil))))) (x2 (gInA false) (xV 5) (xV 3)) (xV 5) [some (.tn (t.rs.map oD)), some (.tn (t.us.map oD)), some (cnD c0), some (.lst (found.map cnD)), some (nN i), r5] B = some (.lst ((moreQ t found c).map cnD), B) := by
    refine lc_run (it_run (call_run (cons_run rfl (cons_run rfl (cons_run (x2_run rfl rfl (ix_lst (map_get hc))) rfl))) (besideP_ok t hr hu c hv B)) rfl) (lc_fm cnD (fun y => !decide (y ∈ found)) cnD (bes t c) fun y hy => ⟨_, rfl, x2_run rfl rfl (enc_cn.nL (by decide) y found), fun _ => rfl⟩) ?_
    rw [List.length_map]
    exact len_small (by show (moreQ t found c).length ≤ _; omega)
  refine seq_nx (mut_run e2 rfl (gExt_run (by rw [List.length_map, List.length_map]; omega))) ((aug_run rfl rfl (zi i 1)).trans ?_)
  rw [List.map_append]
  rfl
theorem pq_go (t : Tb) (hr : Jn t.n t.rs) (hu : Jn t.n t.us) (hn : t.n ≤ 100) (c0 : Cn) (B : Bg) : ∀ (f : Nat) (found : List Cn) (i : Nat) (r5 : Option D), Wk t c0 found i → i ≤ found.length → 4 * t.n < f + i →
    ∃ j r5', whileGo pqC pqB f [some (.tn (t.rs.map oD)), some (.tn (t.us.map oD)), some (cnD c0), some (.lst (found.map cnD)), some (nN i), r5] B = some (.nx [some (.tn (t.rs.map oD)), some (.tn (t.us.map oD)), some (cnD c0), some (.lst ((walkQ t f found i).map cnD)), some (nN j), r5'], B)
  | 0, found, i, r5, h, hi, hf => by
    have := h.len
    omega
  | f + 1, found, i, r5, h, hi, hf => by
    have hl := h.len
    have c1 : pqC [some (.tn (t.rs.map oD)), some (.tn (t.us.map oD)), some (cnD c0), some (.lst (found.map cnD)), some (nN i), r5] B = some (.bl (decide (i < found.length)), B) := by
      refine x2_run (y := nN found.length) rfl (x1_run rfl ?_) (z_lt _ _)
      show some (D.int ((found.map cnD).length : Nat)) = _
      rw [List.length_map]
      rfl
    unfold walkQ
    cases e : found[i]? with
    | none =>
      have := List.getElem?_eq_none_iff.mp e
      rw [decide_eq_false (by omega)] at c1
      exact ⟨i, r5, while_off c1⟩
    | some c =>
      have lt := (List.getElem?_eq_some_iff.mp e).1
      rw [decide_eq_true lt] at c1
      have hv := h.vc c (List.mem_of_getElem? e)
      obtain ⟨j, r5', ih⟩ := pq_go t hr hu hn c0 B f (found ++ moreQ t found c) (i + 1) r5 (h.stepQ hr hu e) (by rw [List.length_append]; omega) (by omega)
      exact ⟨j, r5', while_nx c1 (pq_step t hr hu c0 found i (by omega) c e hv.1 r5 B) ih⟩
theorem walkQ_pt (hr : Jn t.n t.rs) (hu : Jn t.n t.us) (hn : t.n ≤ 100) {c : Cn} (hc : Vc t.n c) : srtL (walkQ t fuel [c] 0) = ptOf t c := by
  have w := walkQ_wk hr hu fuel [c] 0 (wk0 hc) (by show 4 * t.n < 1000000 + 0; omega)
  have p := walkP_wk hr hu fuel [c] 0 (wk0 hc) (by show 4 * t.n < 1000000 + 0; omega)
  have cl : ∀ {fs : List Cn}, Wk t c fs fs.length → ∀ x ∈ fs, ∀ y ∈ bes t x, y ∈ fs := fun {fs} h x hx y hy => by
    obtain ⟨j, hj⟩ := List.getElem?_of_mem hx
    exact h.cl j x (List.getElem?_eq_some_iff.mp hj).1 hj y hy
  exact srtL_eq w.nd p.nd fun x => ⟨fun hx => w.mn _ p.st (cl p) x hx, fun hx => p.mn _ w.st (cl w) x hx⟩
theorem corners_at_ok (hr : Jn t.n t.rs) (hu : Jn t.n t.us) (hn : t.n ≤ 100) {c : Cn} (hc : Vc t.n c) (B : Bg) : m_corners_at [.tn (t.rs.map oD), .tn (t.us.map oD), cnD c] B = some (ptD (ptOf t c), B) := by
  obtain ⟨j, r5, e⟩ := pq_go t hr hu hn c B fuel [c] 0 none (wk0 hc) (Nat.zero_le _) (by show 4 * t.n < 1000000 + 0; omega)
  rw [← walkQ_pt hr hu hn hc]
  exact fn_run rfl (seq_nx (par_run rfl) (seq_nx e (ret_run (x1_run (x1_run rfl (srtL_ok _).1) rfl))))
end
section
variable {t : Tb}
end
section
variable {N : Nat} {t : Tb}
def kp (t : Tb) (l : Lb) : Bool := decide (go t false (go t true (came t false (came t true l))) = l)
def flD : Option (Option (Fin 8)) → D
  | none => .non
  | some none => .str ""
  | some (some i) => nmD i
end
section
variable {N : Nat} {t : Tb}
end
open PySem.W NS
section
variable {N : Nat} {t : Tb}
end
open PySem.W NS
section
variable {N : Nat} {t : Tb}
end
section
variable {n : Nat} {f g : Nat → Nat}
end
def pl : List Nat → Nat → List (Key × D)
  | [], _ => []
  | x :: r, k => (.inl (x : Int), nN k) :: pl r (k + 1)
section
variable {n : Nat} {f g : Nat → Nat} {b : Nat}
end
section
variable {a b c : D} {n : Nat} {f g : Nat → Nat} {kf : Nat → D} {beg : Nat}
end
section
variable {a b c : D} {n : Nat} {f g : Nat → Nat} {kf : Nat → D} {beg : Nat}
end
section
variable {N : Nat} {t : Tb}
end
section
variable {N : Nat} {t : Tb}
theorem Wt.mp (h : Wt N t) : 0 < t.m := h.m0
end
section
variable {N : Nat} {t : Tb}
end
structure PicL (n : Nat) (s u : List Nat) (ks : List D) : Prop where
  h0 : 0 < n
  ls : s.length = n
  lu : u.length = n
  lk : ks.length = n
  bs : ∀ x ∈ s, x < n
  bu : ∀ x ∈ u, x < n
theorem box_tn {ds : List D} {f : Nat → D} {n : Nat} (h : ∀ i, i < n → ds[i]? = some (f i)) : Box (.tn ds) n f := fun i hi => ix_tn (h i hi)
section
variable {n : Nat} {s u : List Nat} {ks : List D}
theorem PicL.xs (p : PicL n s u ks) : Box (.tn (nl s)) n fun i => nN (at0 s i) := box_tn fun i hi => nl_get (by rw [p.ls]; exact hi)
end
section
variable {N : Nat} {t : Tb}
end
abbrev Kd := Option (Option (Fin 8) × Nat)
def kD : Kd → D
  | none => .non
  | some (x, k) => .tup [flD (some x), nN k]
abbrev Pic := List Nat × List Nat × List Kd
section
variable {n m : Nat} {f g F G φ : Nat → Nat} {b : Nat}
end
structure PicQ (n : Nat) (p : Pic) : Prop where
  h0 : 0 < n
  hn : n ≤ 250
  ls : p.1.length = n
  lu : p.2.1.length = n
  lk : p.2.2.length = n
  bs : ∀ x ∈ p.1, x < n
  bu : ∀ x ∈ p.2.1, x < n
  ds : p.1.Nodup
  du : p.2.1.Nodup
  kd : ∀ x ∈ p.2.2, ∀ q, x = some q → q.2 < 300
theorem PicQ.l {n : Nat} {p : Pic} (q : PicQ n p) : PicL n p.1 p.2.1 (p.2.2.map kD) := ⟨q.h0, q.ls, q.lu, by rw [List.length_map, q.lk], q.bs, q.bu⟩
section
variable {n : Nat} {f g : Nat → Nat} {b : Nat} {kf : Nat → Kd}
end
section
variable {n : Nat} {p : Pic}
end
structure CplP (n : Nat) (p : List Nat × List Nat) : Prop where
  la : p.1.length = n
  lb : p.2.length = n
  ha : ∀ x ∈ p.1, x < n
  hb : ∀ x ∈ p.2, x < n
  da : p.1.Nodup
  db : p.2.Nodup
section
variable {n : Nat} {p : List Nat × List Nat}
theorem CplP.fa (c : CplP n p) : ∀ i, i < n → at0 p.1 i < n := fun i hi => c.ha _ (at0_mem (by rw [c.la]; exact hi))
theorem CplP.fb (c : CplP n p) : ∀ i, i < n → at0 p.2 i < n := fun i hi => c.hb _ (at0_mem (by rw [c.lb]; exact hi))
end
section
variable {N : Nat} {t : Tb}
end
section
variable {n : Nat} {p : Pic}
end
theorem nice_lst {k n m : Nat} {ds : List D} (h : ∀ d ∈ ds, Nice k n d) (hm : ds.length ≤ m) : Nice (k + 1) (m * (n + 2) + 3) (.lst ds) := by
  obtain ⟨h1, h2, h3, h4, h5, h6⟩ := all_py h
  refine ⟨h1, h2, h3, ?_, ?_⟩
  · show PyData.depth (.list (pyL ds)) ≤ k + 1
    unfold PyData.depth
    omega
  · show (listText (PyData.shownAll (pyL ds))).length ≤ _
    have q := listText_len_le (PyData.shownAll (pyL ds))
    have p := piled_le h6
    have e : piled (PyData.shownAll (pyL ds)) = ((PyData.shownAll (pyL ds)).map (·.length)).sum + 2 * (PyData.shownAll (pyL ds)).length := by
      generalize PyData.shownAll (pyL ds) = ts
      induction ts with
      | nil => rfl
      | cons t ts ih =>
        rw [piled_cons, ih, List.map_cons, List.sum_cons, List.length_cons]
        omega
    rw [h5] at p e q
    have p2 : ds.length * (n + 2) ≤ m * (n + 2) := Nat.mul_le_mul_right _ hm
    omega
open PySem.W NS
open PySem.W NS
def isI : D → Bool
  | .int _ => true
  | _ => false
theorem kt : (kitB "NoneType" "int" = some false ∧ kitB "bool" "int" = some true ∧ kitB "int" "int" = some true ∧ kitB "str" "int" = some false ∧ kitB "tuple" "int" = some false ∧ kitB "list" "int" = some false ∧ kitB "dict" "int" = some false) ∧
    (kitB "NoneType" "bool" = some false ∧ kitB "bool" "bool" = some true ∧ kitB "int" "bool" = some false ∧ kitB "str" "bool" = some false ∧ kitB "tuple" "bool" = some false ∧ kitB "list" "bool" = some false ∧ kitB "dict" "bool" = some false) ∧
    (kitB "NoneType" "tuple" = some false ∧ kitB "bool" "tuple" = some false ∧ kitB "int" "tuple" = some false ∧ kitB "str" "tuple" = some false ∧ kitB "tuple" "tuple" = some true ∧ kitB "list" "tuple" = some false ∧ kitB "dict" "tuple" = some false) := by decide +kernel
def isIB : D → Bool
  | .int _ => true
  | .bl _ => true
  | _ => false
def isBl : D → Bool
  | .bl _ => true
  | _ => false
def isTp : D → Bool
  | .tup _ => true
  | .tn _ => true
  | _ => false
theorem gi_some {T : String} {x : D} {t : String} {b : Bool} (h : tyD x = some t) (k : kitB t T = some b) : gInst T x = some (.bl b) := by
  unfold gInst
  rw [h, Option.bind_some, k]
  rfl
theorem gi_int {x : D} (h : (tyD x).isSome = true) : gInst "int" x = some (.bl (isIB x)) := by
  obtain ⟨⟨a, b, c, d, e, f, g⟩, _, _⟩ := kt
  cases x with
  | non => exact gi_some rfl a
  | bl _ => exact gi_some rfl b
  | int _ => exact gi_some rfl c
  | str _ => exact gi_some rfl d
  | tup _ => exact gi_some rfl e
  | tn _ => exact gi_some rfl e
  | lst _ => exact gi_some rfl f
  | dK _ => exact gi_some rfl g
  | _ => cases h
theorem gi_bool {x : D} (h : (tyD x).isSome = true) : gInst "bool" x = some (.bl (isBl x)) := by
  obtain ⟨_, ⟨a, b, c, d, e, f, g⟩, _⟩ := kt
  cases x with
  | non => exact gi_some rfl a
  | bl _ => exact gi_some rfl b
  | int _ => exact gi_some rfl c
  | str _ => exact gi_some rfl d
  | tup _ => exact gi_some rfl e
  | tn _ => exact gi_some rfl e
  | lst _ => exact gi_some rfl f
  | dK _ => exact gi_some rfl g
  | _ => cases h
theorem gi_tup {x : D} (h : (tyD x).isSome = true) : gInst "tuple" x = some (.bl (isTp x)) := by
  obtain ⟨_, _, a, b, c, d, e, f, g⟩ := kt
  cases x with
  | non => exact gi_some rfl a
  | bl _ => exact gi_some rfl b
  | int _ => exact gi_some rfl c
  | str _ => exact gi_some rfl d
  | tup _ => exact gi_some rfl e
  | tn _ => exact gi_some rfl e
  | lst _ => exact gi_some rfl f
  | dK _ => exact gi_some rfl g
  | _ => cases h
theorem isI_and (x : D) : (isIB x && !isBl x) = isI x := by cases x <;> rfl
section
variable {x : D} {B : Bg}
def beB (x : D) (n : Int) : Bool := match x with
  | .int i => decide (0 ≤ i) && decide (i < n)
  | _ => false
theorem chainI {f g k : Ex} {ρ : Env} {B : Bg} {a b c : Int} (e1 : f ρ B = some (.int a, B)) (e2 : g ρ B = some (.int b, B)) (e3 : k ρ B = some (.int c, B)) : xChain gLe gLt f g k ρ B = some (.bl (decide (a ≤ b) && decide (b < c)), B) := by
  unfold xChain
  rw [e1, Option.bind_some, e2, Option.bind_some]
  show (Option.bind (some (D.bl (decide (a ≤ b)))) _) = _
  rw [Option.bind_some]
  by_cases z : a ≤ b
  · rw [decide_eq_true z]
    dsimp only
    rw [e3, Option.bind_some, Bool.true_and]
    rfl
  · rw [decide_eq_false z]
    rfl
end
section
variable {B : Bg}
end
def Tyk (x : D) : Prop := (tyD x).isSome = true
def isSt : D → Bool
  | .str _ => true
  | _ => false
theorem kts : kitB "NoneType" "str" = some false ∧ kitB "bool" "str" = some false ∧ kitB "int" "str" = some false ∧ kitB "str" "str" = some true ∧ kitB "tuple" "str" = some false ∧ kitB "list" "str" = some false ∧ kitB "dict" "str" = some false := by decide +kernel
theorem gi_str {x : D} (h : Tyk x) : gInst "str" x = some (.bl (isSt x)) := by
  obtain ⟨a, b, c, d, e, f, g⟩ := kts
  cases x with
  | non => exact gi_some rfl a
  | bl _ => exact gi_some rfl b
  | int _ => exact gi_some rfl c
  | str _ => exact gi_some rfl d
  | tup _ => exact gi_some rfl e
  | tn _ => exact gi_some rfl e
  | lst _ => exact gi_some rfl f
  | dK _ => exact gi_some rfl g
  | _ => cases h
theorem and_bb {fa fb : Ex} {ρ : Env} {B : Bg} {a b : Bool} (e : fa ρ B = some (.bl a, B)) (e2 : fb ρ B = some (.bl b, B)) : xAnd fa fb ρ B = some (.bl (a && b), B) := by
  cases a with
  | true => exact and_t e e2
  | false => exact and_f e
section
variable {x : D} {B : Bg}
theorem isint_any {f : Ex} {ρ : Env} {B1 : Bg} (e : f ρ B1 = some (x, B1)) (h : Tyk x) : xAnd (x1 (gInst "int") f) (xNot (x1 (gInst "bool") f)) ρ B1 = some (.bl (isI x), B1) := by
  rw [← isI_and]
  exact and_bb (x1_run e (gi_int h)) (not_run (x1_run e (gi_bool h)))
theorem is_integer_any (h : Tyk x) : m_is_integer [x] B = some (.bl (isI x), B) := fn_run rfl (ret_run (isint_any rfl h))
theorem law_is_int_any (h : Tyk x) : m_law_is_int [x] B = some (.bl (isI x), B) := fn_run rfl (ret_run (isint_any rfl h))
theorem is_below_any (h : Tyk x) (n : Int) : m_is_below [x, .int n] B = some (.bl (beB x n), B) := by
  have i := is_integer_any (B := B) h
  refine fn_run rfl (ret_run ?_)
  cases x with
  | int j => exact and_t (call_run (cons_run rfl rfl) i) (chainI rfl rfl rfl)
  | _ => exact and_f (call_run (cons_run rfl rfl) i)
def paB (k : Nat) : D → Bool
  | .tup ds => decide (ds.length = k)
  | .tn ds => decide (ds.length = k)
  | _ => false
theorem are_parts_any (h : Tyk x) (k : Nat) : m_are_parts [x, nN k] B = some (.bl (paB k x), B) := by
  refine fn_run rfl (ret_run ?_)
  have i : ∀ ρ : Env, ρ.getD 0 none = some x → x1 (gInst "tuple") (xV 0) ρ B = some (.bl (isTp x), B) := fun ρ e => x1_run (by
    unfold xV
    rw [e]
    rfl) (gi_tup h)
  cases x with
  | tup ds => exact and_t (i _ rfl) (x2_run (x1_run rfl rfl) rfl (nN_eq ds.length k))
  | tn ds => exact and_t (i _ rfl) (x2_run (x1_run rfl rfl) rfl (nN_eq ds.length k))
  | _ => exact and_f (i _ rfl)
def crnB (n : Nat) : D → Bool
  | .tup [a, b, c] => beB a n && (beB b 2 && beB c 2)
  | _ => false
structure Thg (x : D) : Prop where
  ty : Tyk x
  el : ∀ ds, x = .tup ds → ∀ d ∈ ds, Tyk d
  tn : ∀ ds, x = .tn ds → ds = []
theorem is_corner_any (h : Thg x) (n : Nat) : m_is_corner_of [nN n, x] B = some (.bl (crnB n x), B) := by
  have p := are_parts_any (B := B) h.ty 3
  refine fn_run rfl (ret_run ?_)
  cases x with
  | tup ds =>
    have e := h.el ds rfl
    match ds, e, p with
    | [a, b, c], e, p =>
      have ea := is_below_any (B := B) (e a (by simp)) (n : Int)
      have eb := is_below_any (B := B) (e b (by simp)) 2
      have ec := is_below_any (B := B) (e c (by simp)) 2
      exact and_t (call_run (cons_run rfl (cons_run rfl rfl)) p) (and_bb (call_run (cons_run (x2_run rfl rfl rfl) (cons_run rfl rfl)) ea) (and_bb (call_run (cons_run (x2_run rfl rfl rfl) (cons_run rfl rfl)) eb) (call_run (cons_run (x2_run rfl rfl rfl) (cons_run rfl rfl)) ec)))
    | [], _, p => exact and_f (call_run (cons_run rfl (cons_run rfl rfl)) p)
    | [_], _, p => exact and_f (call_run (cons_run rfl (cons_run rfl rfl)) p)
    | [_, _], _, p => exact and_f (call_run (cons_run rfl (cons_run rfl rfl)) p)
    | a :: b :: c :: d :: r, _, p =>
      have z : paB 3 (.tup (a :: b :: c :: d :: r)) = false := by
        unfold paB
        exact decide_eq_false fun h => by
          simp only [List.length_cons] at h
          omega
      rw [z] at p
      exact and_f (call_run (cons_run rfl (cons_run rfl rfl)) p)
  | tn ds =>
    have e := h.tn ds rfl
    subst e
    exact and_f (call_run (cons_run rfl (cons_run rfl rfl)) p)
  | _ => exact and_f (call_run (cons_run rfl (cons_run rfl rfl)) p)
end
section
variable {N : Nat} {t : Tb} {x : D} {B : Bg}
theorem is_corner_ok (h : Thg x) : m_is_corner [tbD t, x] B = some (.bl (crnB t.n x), B) := fn_run rfl (ret_run (call_run (cons_run (x2_run rfl rfl rfl) (cons_run rfl rfl)) (is_corner_any h t.n)))
def laB (n m : Nat) : D → Bool
  | .tup [a, b, c, d] => crnB n (.tup [a, b, c]) && beB d m
  | _ => false
theorem is_label_ok (h : Thg x) : m_is_label [tbD t, x] B = some (.bl (laB t.n t.m x), B) := by
  have p := are_parts_any (B := B) h.ty 4
  refine fn_run rfl (ret_run ?_)
  cases x with
  | tup ds =>
    have e := h.el ds rfl
    match ds, e, p with
    | [a, b, c, d], e, p =>
      have hc : Thg (.tup [a, b, c]) := ⟨rfl, fun ds q y hy => by
        cases q
        exact e y (by simp at hy ⊢; rcases hy with rfl | rfl | rfl <;> simp), fun ds q => by cases q⟩
      have ec := is_corner_any (B := B) hc t.n
      have ed := is_below_any (B := B) (e d (by simp)) (t.m : Int)
      have sl : xSl gSl (xV 1) xPn (xPs (xC (.int 3))) [some (tbD t), some (.tup [a, b, c, d])] B = some (.tup [a, b, c], B) := rfl
      exact and_t (call_run (cons_run rfl (cons_run rfl rfl)) p) (and_bb (call_run (cons_run (x2_run rfl rfl rfl) (cons_run sl rfl)) ec) (call_run (cons_run (x2_run rfl rfl rfl) (cons_run (x2_run rfl rfl rfl) rfl)) ed))
    | [], _, p => exact and_f (call_run (cons_run rfl (cons_run rfl rfl)) p)
    | [_], _, p => exact and_f (call_run (cons_run rfl (cons_run rfl rfl)) p)
    | [_, _], _, p => exact and_f (call_run (cons_run rfl (cons_run rfl rfl)) p)
    | [_, _, _], _, p => exact and_f (call_run (cons_run rfl (cons_run rfl rfl)) p)
    | a :: b :: c :: d :: e :: r, _, p =>
      have z : paB 4 (.tup (a :: b :: c :: d :: e :: r)) = false := by
        unfold paB
        exact decide_eq_false fun h => by
          simp only [List.length_cons] at h
          omega
      rw [z] at p
      exact and_f (call_run (cons_run rfl (cons_run rfl rfl)) p)
  | tn ds =>
    have e := h.tn ds rfl
    subst e
    exact and_f (call_run (cons_run rfl (cons_run rfl rfl)) p)
  | _ => exact and_f (call_run (cons_run rfl (cons_run rfl rfl)) p)
end
abbrev WdT := {w : Str // PyData.strOk w = true}
def wdtD (w : WdT) : D := .str w.1
theorem enc_wdt : Enc wdtD 0 := ⟨fun _ => rfl, fun a b => by
  show PyData.eqv (.str a.1) (.str b.1) = _
  rw [PyData.eqv, Bool.eq_iff_iff]
  simp [Subtype.ext_iff], fun a => a.2, fun _ => Nat.le_refl _⟩
def sdW (s : Sd) : WdT := ⟨sdS s, by cases s <;> decide +kernel⟩
def Stx (x : D) : Prop := ∀ ds, x = .tup ds → ∀ w, .str w ∈ ds → PyData.strOk w = true
theorem ways_in (w : WdT) : gInA false (.str w.1) (.tup [.str "right", .str "up", .str "left", .str "down"]) = some (.bl (!decide (w ∈ [sdW .right, sdW .up, sdW .left, sdW .down]))) := by
  have h := enc_wdt.inT (by decide) false w [sdW .right, sdW .up, sdW .left, sdW .down]
  rw [if_neg Bool.false_ne_true] at h
  exact h.trans (congrArg (fun b => some (D.bl (!b))) (decide_eq_decide.mpr Iff.rfl))
theorem two_in (w : WdT) : gInA true (.str w.1) (.tup [.str "right", .str "up"]) = some (.bl (decide (w ∈ [sdW .right, sdW .up]))) := enc_wdt.yT (by decide) w [sdW .right, sdW .up]
theorem beB_n {b : D} {n : Nat} (h : beB b n = true) : ∃ c : Nat, b = nN c ∧ c < n := by
  cases b with
  | int i =>
    have h : (decide (0 ≤ i) && decide (i < (n : Int))) = true := h
    rw [Bool.and_eq_true, decide_eq_true_eq, decide_eq_true_eq] at h
    obtain ⟨c, rfl⟩ := Int.eq_ofNat_of_zero_le h.1
    exact ⟨c, rfl, Int.ofNat_lt.mp h.2⟩
  | _ => cases h
theorem n_beB {c n : Nat} (h : c < n) : beB (nN c) n = true := by
  show (decide (0 ≤ (c : Int)) && decide ((c : Int) < (n : Int))) = true
  rw [decide_eq_true (Int.natCast_nonneg c), decide_eq_true (Int.ofNat_lt.mpr h)]
  rfl
theorem paB_2 {x : D} (h : Thg x) (p : paB 2 x = true) : ∃ a b, x = .tup [a, b] := by
  cases x with
  | tup ds =>
    have p : ds.length = 2 := of_decide_eq_true p
    match ds, p with
    | [a, b], _ => exact ⟨a, b, rfl⟩
  | tn ds =>
    have e := h.tn ds rfl
    subst e
    cases p
  | _ => cases p
section
variable {N : Nat} {t : Tb} {x : D} {B : Bg}
abbrev eoE (t : Tb) (x : D) : Env := [some (.tn (t.rs.map oD)), some (.tn (t.us.map oD)), some x, none, none]
def eoA : Ex := (xOr (xNot (xCall m_are_parts (xCons (xV 2) (xCons (xC (.int 2)) xNil)))) (xOr (xNot (x1 (gInst "str") (x2 gIx (xV 2) (xC (.int 0))))) (x2 (gInA false) (x2 gIx (xV 2) (xC (.int 0))) (xC (.tup [.str "right", .str "up", .str "left", .str "down"])))))
def eoC : Ex := (xNot (xCall m_is_below (xCons (x2 gIx (xV 2) (xC (.int 1))) (xCons (x1 gLen (xV 0)) xNil))))
def eoF : Ex := (xOr (x2 (gInA true) (xV 3) (xTup (xCons (xC (.str "right")) (xCons (xC (.str "up")) xNil)))) (x2 (gInA false) (xV 4) (xIf (x2 gEq (xV 3) (xC (.str "left"))) (xV 0) (xV 1))))
theorem eo_1 (h : eoA (eoE t x) B = some (.bl true, B)) : m_is_edge_of [.tn (t.rs.map oD), .tn (t.us.map oD), x] B = some (.bl false, B) := fn_run rfl (seq_rt (if_t h (ret_run rfl)))
theorem eo_2 (h : eoA (eoE t x) B = some (.bl false, B)) (h2 : eoC (eoE t x) B = some (.bl true, B)) : m_is_edge_of [.tn (t.rs.map oD), .tn (t.us.map oD), x] B = some (.bl false, B) := fn_run rfl (seq_nx (if_f h rfl) (seq_rt (if_t h2 (ret_run rfl))))
theorem eo_3 {a b : D} {k : Bool} (h : eoA (eoE t (.tup [a, b])) B = some (.bl false, B)) (h2 : eoC (eoE t (.tup [a, b])) B = some (.bl false, B)) (h3 : eoF [some (.tn (t.rs.map oD)), some (.tn (t.us.map oD)), some (.tup [a, b]), some a, some b] B = some (.bl k, B)) : m_is_edge_of [.tn (t.rs.map oD), .tn (t.us.map oD), .tup [a, b]] B = some (.bl k, B) := fn_run rfl (seq_nx (if_f h rfl) (seq_nx (if_f h2 rfl) (seq_nx (unp_run rfl rfl) (ret_run h3))))
theorem is_edge_ok (hw : Wt N t) (hx : Thg x) (hs : Stx x) : ∃ b, m_is_edge [tbD t, x] B = some (.bl b, B) ∧ (b = true ↔ ∃ e ∈ edgesOf t.n t.rs t.us, x = edD e) := by
  have top : ∀ {d : D}, m_is_edge_of [.tn (t.rs.map oD), .tn (t.us.map oD), x] B = some (d, B) → m_is_edge [tbD t, x] B = some (d, B) := fun E => fn_run rfl (ret_run (call_run (cons_run (x2_run rfl rfl (tb_2 t)) (cons_run (x2_run rfl rfl (tb_3 t)) (cons_run rfl rfl))) E))
  have pa := are_parts_any (B := B) hx.ty 2
  have cp : xNot (xCall m_are_parts (xCons (xV 2) (xCons (xC (.int 2)) xNil))) (eoE t x) B = some (.bl (!paB 2 x), B) := not_run (call_run (cons_run rfl (cons_run rfl rfl)) pa)
  by_cases hp : paB 2 x = true
  · obtain ⟨a, b, rfl⟩ := paB_2 hx hp
    rw [hp] at cp
    have ta := hx.el _ rfl a (by simp)
    have tb := hx.el _ rfl b (by simp)
    have i1 : xNot (x1 (gInst "str") (x2 gIx (xV 2) (xC (.int 0)))) (eoE t (.tup [a, b])) B = some (.bl (!isSt a), B) := not_run (x1_run (x2_run rfl rfl rfl) (gi_str ta))
    by_cases ha : isSt a = true
    · cases a with
      | str w =>
        rw [ha] at i1
        have ok := hs _ rfl w (by simp)
        have wi := ways_in ⟨w, ok⟩
        have i2 : x2 (gInA false) (x2 gIx (xV 2) (xC (.int 0))) (xC (.tup [.str "right", .str "up", .str "left", .str "down"])) (eoE t (.tup [.str w, b])) B = some (.bl (!decide ((⟨w, ok⟩ : WdT) ∈ [sdW .right, sdW .up, sdW .left, sdW .down])), B) := x2_run (x2_run rfl rfl rfl) rfl wi
        by_cases hm : (⟨w, ok⟩ : WdT) ∈ [sdW .right, sdW .up, sdW .left, sdW .down]
        · rw [decide_eq_true hm] at i2
          have eA : eoA (eoE t (.tup [.str w, b])) B = some (.bl false, B) := or_f cp (or_f i1 i2)
          have be := is_below_any (B := B) tb (t.n : Int)
          have ln : gLen (.tn (t.rs.map oD)) = some (nN t.n) := by
            show some (D.int ((t.rs.map oD).length : Nat)) = _
            rw [List.length_map, hw.r.len]
            rfl
          have c2 : eoC (eoE t (.tup [.str w, b])) B = some (.bl (!beB b t.n), B) := not_run (call_run (cons_run (x2_run rfl rfl rfl) (cons_run (x1_run rfl ln) rfl)) be)
          obtain ⟨s, hsd⟩ : ∃ s : Sd, w = sdS s := by
            simp only [List.mem_cons, List.not_mem_nil, or_false] at hm
            rcases hm with z | z | z | z
            · exact ⟨.right, congrArg Subtype.val z⟩
            · exact ⟨.up, congrArg Subtype.val z⟩
            · exact ⟨.left, congrArg Subtype.val z⟩
            · exact ⟨.down, congrArg Subtype.val z⟩
          subst hsd
          by_cases hb : beB b t.n = true
          · rw [hb] at c2
            obtain ⟨c, rfl, hc⟩ := beB_n hb
            have ti := two_in (sdW s)
            have f1 : x2 (gInA true) (xV 3) (xTup (xCons (xC (.str "right")) (xCons (xC (.str "up")) xNil))) [some (.tn (t.rs.map oD)), some (.tn (t.us.map oD)), some (.tup [.str (sdS s), nN c]), some (.str (sdS s)), some (nN c)] B = some (.bl (decide (sdW s ∈ [sdW .right, sdW .up])), B) := x2_run rfl (tup_run (cons_run rfl (cons_run rfl rfl))) ti
            have ee : ∀ {k : Bool}, (k = true ↔ (s, c) ∈ edgesOf t.n t.rs t.us) → (k = true ↔ ∃ e ∈ edgesOf t.n t.rs t.us, D.tup [.str (sdS s), nN c] = edD e) := fun h => h.trans ⟨fun z => ⟨_, z, rfl⟩, fun ⟨e, he, z⟩ => by
              have z : edD (s, c) = edD e := z
              rw [enc_ed.inj z]
              exact he⟩
            have up : ∀ s', s' = Sd.right ∨ s' = Sd.up → (s', c) ∈ edgesOf t.n t.rs t.us := fun s' h => by
              rcases h with rfl | rfl
              · exact edgesOf_mem.mpr ⟨hc, fun z => (nomatch z), fun z => (nomatch z)⟩
              · exact edgesOf_mem.mpr ⟨hc, fun z => (nomatch z), fun z => (nomatch z)⟩
            have q : x2 gEq (xV 3) (xC (.str "left")) [some (.tn (t.rs.map oD)), some (.tn (t.us.map oD)), some (.tup [.str (sdS s), nN c]), some (.str (sdS s)), some (nN c)] B = some (.bl (decide (s = .left)), B) := x2_run rfl rfl (enc_sd.eq (by decide) s .left)
            cases s with
            | right => exact ⟨true, top (eo_3 eA c2 (or_t f1)), ee ⟨fun _ => up _ (.inl rfl), fun _ => rfl⟩⟩
            | up => exact ⟨true, top (eo_3 eA c2 (or_t f1)), ee ⟨fun _ => up _ (.inr rfl), fun _ => rfl⟩⟩
            | left =>
              refine ⟨!decide (some c ∈ t.rs), top (eo_3 eA c2 (or_f f1 (x2_run rfl (ife_t q rfl) (enc_oD.notN (by decide) (some c) t.rs)))), ee ?_⟩
              rw [Bool.not_eq_true', decide_eq_false_iff_not]
              exact ⟨fun h => edgesOf_mem.mpr ⟨hc, fun z => (nomatch z), fun _ => h⟩, fun h => (edgesOf_mem.mp h).2.2 rfl⟩
            | down =>
              refine ⟨!decide (some c ∈ t.us), top (eo_3 eA c2 (or_f f1 (x2_run rfl (ife_f q rfl) (enc_oD.notN (by decide) (some c) t.us)))), ee ?_⟩
              rw [Bool.not_eq_true', decide_eq_false_iff_not]
              exact ⟨fun h => edgesOf_mem.mpr ⟨hc, fun _ => h, fun z => (nomatch z)⟩, fun h => (edgesOf_mem.mp h).2.1 rfl⟩
          · have z : beB b t.n = false := Bool.eq_false_iff.mpr hb
            rw [z] at c2
            refine ⟨false, top (eo_2 eA c2), ⟨fun h => (nomatch h), fun ⟨e, he, q⟩ => ?_⟩⟩
            have q : [D.str (sdS s), b] = [sdD e.1, nN e.2] := D.tup.inj q
            have q2 : b = nN e.2 := (List.cons.inj (List.cons.inj q).2).1
            rw [q2] at hb
            exact absurd (n_beB (edgesOf_mem.mp he).1) hb
        · rw [decide_eq_false hm] at i2
          refine ⟨false, top (eo_1 (or_f cp (or_f i1 i2))), ⟨fun h => (nomatch h), fun ⟨e, he, q⟩ => ?_⟩⟩
          have q : [D.str w, b] = [sdD e.1, nN e.2] := D.tup.inj q
          have q2 : w = sdS e.1 := D.str.inj (List.cons.inj q).1
          subst q2
          refine absurd ?_ hm
          have m : ∀ s : Sd, sdW s ∈ [sdW .right, sdW .up, sdW .left, sdW .down] := fun s => by cases s <;> decide +kernel
          exact m e.1
      | _ => cases ha
    · have z : isSt a = false := Bool.eq_false_iff.mpr ha
      rw [z] at i1
      refine ⟨false, top (eo_1 (or_f cp (or_t i1))), ⟨fun h => (nomatch h), fun ⟨e, he, q⟩ => ?_⟩⟩
      have q : [a, b] = [sdD e.1, nN e.2] := D.tup.inj q
      rw [(List.cons.inj q).1] at ha
      exact absurd rfl ha
  · have z : paB 2 x = false := Bool.eq_false_iff.mpr hp
    rw [z] at cp
    refine ⟨false, top (eo_1 (or_t cp)), ⟨fun h => (nomatch h), fun ⟨e, he, q⟩ => ?_⟩⟩
    rw [q] at hp
    exact absurd rfl hp
theorem crnB_iff : crnB t.n x = true ↔ ∃ c ∈ cornersOf t.n, x = cnD c := by
  constructor
  · intro h
    unfold crnB at h
    split at h
    · rename_i a b c
      rw [Bool.and_eq_true, Bool.and_eq_true] at h
      obtain ⟨a', rfl, ha⟩ := beB_n h.1
      obtain ⟨b', rfl, hb⟩ := beB_n (n := 2) h.2.1
      obtain ⟨c', rfl, hc⟩ := beB_n (n := 2) h.2.2
      exact ⟨(a', b', c'), corners_mem.mpr ⟨ha, Nat.le_of_lt_succ hb, Nat.le_of_lt_succ hc⟩, rfl⟩
    · cases h
  · rintro ⟨c, hc, rfl⟩
    obtain ⟨a, b, d⟩ := corners_mem.mp hc
    show (beB (nN c.1) t.n && (beB (nN c.2.1) 2 && beB (nN c.2.2) 2)) = true
    have e1 : beB (nN c.2.1) 2 = true := n_beB (n := 2) (Nat.lt_succ_of_le b)
    have e2 : beB (nN c.2.2) 2 = true := n_beB (n := 2) (Nat.lt_succ_of_le d)
    rw [n_beB a, e1, e2]
    rfl
theorem laB_iff : laB t.n t.m x = true ↔ ∃ l ∈ labelsOf t, x = lbD l := by
  constructor
  · intro h
    unfold laB at h
    split at h
    · rename_i a b c d
      rw [Bool.and_eq_true] at h
      obtain ⟨h1, h2⟩ := h
      have h1 : (beB a t.n && (beB b 2 && beB c 2)) = true := h1
      rw [Bool.and_eq_true, Bool.and_eq_true] at h1
      obtain ⟨a', rfl, ha⟩ := beB_n h1.1
      obtain ⟨b', rfl, hb⟩ := beB_n (n := 2) h1.2.1
      obtain ⟨c', rfl, hc⟩ := beB_n (n := 2) h1.2.2
      obtain ⟨d', rfl, hd⟩ := beB_n h2
      exact ⟨(a', b', c', d'), labels_mem.mpr ⟨ha, Nat.le_of_lt_succ hb, Nat.le_of_lt_succ hc, hd⟩, rfl⟩
    · cases h
  · rintro ⟨c, hc, rfl⟩
    obtain ⟨a, b, d, e⟩ := labels_mem.mp hc
    show ((beB (nN c.1) t.n && (beB (nN c.2.1) 2 && beB (nN c.2.2.1) 2)) && beB (nN c.2.2.2) t.m) = true
    have e1 : beB (nN c.2.1) 2 = true := n_beB (n := 2) (Nat.lt_succ_of_le b)
    have e2 : beB (nN c.2.2.1) 2 = true := n_beB (n := 2) (Nat.lt_succ_of_le d)
    rw [n_beB a, e1, e2, n_beB e]
    rfl
end
def joinL : List (List Nat) → List Nat
  | [] => []
  | [x] => x
  | x :: y :: r => x ++ 44 :: 32 :: joinL (y :: r)
def Flat (s : List Nat) : Prop := 44 ∉ s ∧ ∃ c r, s = c :: r ∧ c ≠ 40 ∧ c ≠ 91 ∧ c ≠ 123
def Brk (s : List Nat) : Prop := ∃ c r, s = c :: r ∧ (c = 40 ∨ c = 91 ∨ c = 123)
theorem cut_at : ∀ {s t a b : List Nat}, 44 ∉ s → 44 ∉ t → s ++ 44 :: a = t ++ 44 :: b → s = t ∧ a = b
  | [], [], a, b, _, _, h => ⟨rfl, (List.cons.inj h).2⟩
  | [], c :: t, a, b, _, h2, h => by
    have e := (List.cons.inj h).1
    exact absurd (e ▸ List.mem_cons_self) h2
  | c :: s, [], a, b, h1, _, h => by
    have e := (List.cons.inj h).1
    exact absurd (e ▸ List.mem_cons_self) h1
  | c :: s, d :: t, a, b, h1, h2, h => by
    obtain ⟨e, h⟩ := List.cons.inj h
    obtain ⟨e1, e2⟩ := cut_at (fun z => h1 (List.mem_cons_of_mem _ z)) (fun z => h2 (List.mem_cons_of_mem _ z)) h
    exact ⟨by rw [e, e1], e2⟩
theorem brk_ne {s t a b : List Nat} (hs : Flat s) (ht : Brk t) (h : t ++ a = s ++ b) : False := by
  obtain ⟨_, c, r, rfl, h1, h2, h3⟩ := hs
  obtain ⟨d, q, rfl, hd⟩ := ht
  have e := (List.cons.inj h).1
  subst e
  rcases hd with rfl | rfl | rfl
  · exact h1 rfl
  · exact h2 rfl
  · exact h3 rfl
theorem join_eq : ∀ (ss ts : List (List Nat)), (∀ s ∈ ss, Flat s) → (∀ t ∈ ts, Flat t ∨ Brk t) → ss ≠ [] → ts ≠ [] → joinL ts = joinL ss → ts = ss
  | [], _, _, _, h, _, _ => absurd rfl h
  | _ :: _, [], _, _, _, h, _ => absurd rfl h
  | [s], [t], _, _, _, _, h => by
    have h : t = s := h
    rw [h]
  | [s], t :: t' :: r, hs, _, _, _, h => by
    have h : t ++ 44 :: 32 :: joinL (t' :: r) = s := h
    have f := (hs s List.mem_cons_self).1
    rw [← h] at f
    exact absurd (List.mem_append_right _ List.mem_cons_self) f
  | s :: s' :: r, [t], hs, ht, _, _, h => by
    have h : t = s ++ 44 :: 32 :: joinL (s' :: r) := h
    rcases ht t List.mem_cons_self with f | b
    · have f := f.1
      rw [h] at f
      exact absurd (List.mem_append_right _ List.mem_cons_self) f
    · exact (brk_ne (a := []) (hs s List.mem_cons_self) b (by rw [List.append_nil]; exact h)).elim
  | s :: s' :: r, t :: t' :: q, hs, ht, _, _, h => by
    have h : t ++ 44 :: 32 :: joinL (t' :: q) = s ++ 44 :: 32 :: joinL (s' :: r) := h
    rcases ht t List.mem_cons_self with f | b
    · obtain ⟨e1, e2⟩ := cut_at f.1 (hs s List.mem_cons_self).1 h
      have e2 := (List.cons.inj e2).2
      have ih := join_eq (s' :: r) (t' :: q) (fun x hx => hs x (List.mem_cons_of_mem _ hx)) (fun x hx => ht x (List.mem_cons_of_mem _ hx)) (List.cons_ne_nil _ _) (List.cons_ne_nil _ _) e2
      rw [e1, ih]
    · exact (brk_ne (hs s List.mem_cons_self) b h).elim
theorem join_last : ∀ (ss : List (List Nat)) (x : List Nat), (∀ s ∈ ss, Flat s) → ss ≠ [] → joinL ss ≠ x ++ [44]
  | [], _, _, h => absurd rfl h
  | [s], x, hs, _ => fun h => by
    have h : s = x ++ [44] := h
    have f := (hs s List.mem_cons_self).1
    rw [h] at f
    exact f (List.mem_append_right _ List.mem_cons_self)
  | s :: s' :: r, x, hs, _ => fun h => by
    have h : s ++ 44 :: 32 :: joinL (s' :: r) = x ++ [44] := h
    -- the last sign stands within the rest
    have ne : joinL (s' :: r) ≠ [] := fun z => by
      cases r with
      | nil =>
        obtain ⟨_, c, q, e, _⟩ := hs s' (List.mem_cons_of_mem _ List.mem_cons_self)
        have z : s' = [] := z
        rw [z] at e
        cases e
      | cons y r =>
        have z : s' ++ 44 :: 32 :: joinL (y :: r) = [] := z
        have := congrArg List.length z
        rw [List.length_append, List.length_cons] at this
        simp at this
    have l := congrArg List.getLast? h
    rw [List.getLast?_append, List.getLast?_append] at l
    have e : (44 :: 32 :: joinL (s' :: r)).getLast? = (joinL (s' :: r)).getLast? := by
      cases q : joinL (s' :: r) with
      | nil => exact absurd q ne
      | cons a b => rfl
    rw [e] at l
    have hl : (joinL (s' :: r)).getLast? = some 44 := by
      cases q : (joinL (s' :: r)).getLast? with
      | none => exact absurd (List.getLast?_eq_none_iff.mp q) ne
      | some v =>
        rw [q] at l
        simpa using l
    obtain ⟨y, hy⟩ := List.getLast?_eq_some_iff.mp hl
    exact join_last (s' :: r) y (fun x hx => hs x (List.mem_cons_of_mem _ hx)) (List.cons_ne_nil _ _) hy
def tupL (ts : List (List Nat)) : List Nat := 40 :: (joinL ts ++ (if ts.length = 1 then [44, 41] else [41]))
theorem tup_eq {ss ts : List (List Nat)} (hs : ∀ s ∈ ss, Flat s) (ht : ∀ t ∈ ts, Flat t ∨ Brk t) (h2 : 2 ≤ ss.length) (h : tupL ts = tupL ss) : ts = ss := by
  unfold tupL at h
  have h := (List.cons.inj h).2
  rw [if_neg (by omega : ¬ ss.length = 1)] at h
  have ne : ss ≠ [] := fun z => by
    rw [z] at h2
    cases h2
  by_cases z : ts.length = 1
  · rw [if_pos z, show ([44, 41] : List Nat) = [44] ++ [41] from rfl, ← List.append_assoc] at h
    have h := List.append_cancel_right h
    exact absurd h.symm (join_last ss _ hs ne)
  · rw [if_neg z] at h
    have h := List.append_cancel_right h
    cases ts with
    | nil =>
      have h : [] = joinL ss := h
      exfalso
      cases ss with
      | nil => exact ne rfl
      | cons s r =>
        obtain ⟨_, c, q, e, _⟩ := hs s List.mem_cons_self
        subst e
        cases r with
        | nil => cases h
        | cons y r => cases h
    | cons t r => exact join_eq ss (t :: r) hs ht ne (List.cons_ne_nil _ _) h
def chL (l : List Char) : List Nat := l.map Char.toNat
theorem chL_inj {l m : List Char} (h : chL l = chL m) : l = m := (List.map_inj_right fun (a b : Char) (e : a.toNat = b.toNat) => Char.ext (UInt32.toNat_inj.mp e)).mp h
def natL (n : Nat) : List Nat := chL (Nat.toDigits 10 n)
theorem natL_inj {n m : Nat} (h : natL n = natL m) : n = m := by
  have e := chL_inj h
  have a := Nat.ofDigitChars_ten_toDigits (n := n)
  rw [e, Nat.ofDigitChars_ten_toDigits] at a
  exact a.symm
theorem natL_dig (n : Nat) : ∀ c ∈ natL n, 48 ≤ c ∧ c ≤ 57 := fun c hc => by
  obtain ⟨x, hx, rfl⟩ := List.mem_map.mp hc
  have d := Nat.isDigit_of_mem_toDigits (by decide) (by decide) hx
  unfold Char.isDigit at d
  rw [Bool.and_eq_true, decide_eq_true_eq, decide_eq_true_eq] at d
  exact ⟨UInt32.le_iff_toNat_le.mp d.1, UInt32.le_iff_toNat_le.mp d.2⟩
theorem natL_ne (n : Nat) : natL n ≠ [] := fun h => Nat.toDigits_ne_nil (List.map_eq_nil_iff.mp h)
def intL (i : Int) : List Nat := chL (toString i).toList
theorem intL_eq (i : Int) : intL i = if 0 ≤ i then natL i.toNat else 45 :: natL (-i).toNat := by
  unfold intL natL
  rw [Int.toString_eq_repr, Int.repr_eq_if]
  by_cases h : 0 ≤ i
  · rw [if_pos h, if_pos h, Nat.toList_repr]
  · rw [if_neg h, if_neg h, String.toList_append, Nat.toList_repr]
    rfl
theorem intL_sgn (i : Int) : ∀ c ∈ intL i, c = 45 ∨ (48 ≤ c ∧ c ≤ 57) := fun c hc => by
  rw [intL_eq] at hc
  by_cases h : 0 ≤ i
  · rw [if_pos h] at hc
    exact .inr (natL_dig _ c hc)
  · rw [if_neg h] at hc
    rcases List.mem_cons.mp hc with rfl | hc
    · exact .inl rfl
    · exact .inr (natL_dig _ c hc)
theorem intL_ne (i : Int) : intL i ≠ [] := by
  rw [intL_eq]
  by_cases h : 0 ≤ i
  · rw [if_pos h]
    exact natL_ne _
  · rw [if_neg h]
    exact List.cons_ne_nil _ _
theorem intL_inj {i j : Int} (h : intL i = intL j) : i = j := by
  rw [intL_eq, intL_eq] at h
  by_cases a : 0 ≤ i <;> by_cases b : 0 ≤ j
  · rw [if_pos a, if_pos b] at h
    have := natL_inj h
    omega
  · rw [if_pos a, if_neg b] at h
    have q := natL_dig i.toNat 45 (by rw [h]; exact List.mem_cons_self)
    omega
  · rw [if_neg a, if_pos b] at h
    have q := natL_dig j.toNat 45 (by rw [← h]; exact List.mem_cons_self)
    omega
  · rw [if_neg a, if_neg b] at h
    have := natL_inj (List.cons.inj h).2
    omega
theorem intL_flat (i : Int) : Flat (intL i) := by
  refine ⟨fun h => ?_, ?_⟩
  · have := intL_sgn i 44 h
    omega
  · cases q : intL i with
    | nil => exact absurd q (intL_ne i)
    | cons c r =>
      have := intL_sgn i c (by rw [q]; exact List.mem_cons_self)
      exact ⟨c, r, rfl, by omega, by omega, by omega⟩
def txL (x : Str) : List Nat := x.cps.toList
theorem txL_app (a b : Str) : txL (a ++ b) = txL a ++ txL b := by
  show (a.cps ++ b.cps).toList = _
  rw [Array.toList_append]
  rfl
theorem txL_len (a : Str) : (txL a).length = a.length := by
  show a.cps.toList.length = a.cps.size
  rw [Array.length_toList]
theorem lit_sep : txL (", " : Str) = [44, 32] := by decide +kernel
theorem lit_p0 : txL ("(" : Str) = [40] := by decide +kernel
theorem lit_p1 : txL (")" : Str) = [41] := by decide +kernel
theorem lit_p2 : txL (",)" : Str) = [44, 41] := by decide +kernel
theorem txL_join : ∀ l : List Str, txL (Str.join ", " l) = joinL (l.map txL)
  | [] => by decide +kernel
  | [x] => rfl
  | x :: y :: r => by
    show txL (x ++ (", " : Str) ++ Str.join ", " (y :: r)) = txL x ++ 44 :: 32 :: joinL ((y :: r).map txL)
    rw [txL_app, txL_app, txL_join (y :: r), List.append_assoc, lit_sep]
    rfl
theorem txL_tup (l : List Str) : txL (tupleText l) = tupL (l.map txL) := by
  unfold tupleText tupL
  rw [txL_app, txL_app, txL_join, lit_p0, List.length_map, List.append_assoc]
  by_cases h : l.length = 1
  · rw [if_pos h, if_pos (by rw [h]; rfl), lit_p2]
    rfl
  · rw [if_neg h, if_neg (by rw [beq_iff_eq]; exact h), lit_p1]
    rfl
theorem txL_int (i : Int) : txL ((toString i : String) : Str) = intL i := by
  show (Str.ofString (toString i)).cps.toList = _
  rw [Str.ofString_eq_toList]
  rfl
theorem joinL_len {n : Nat} : ∀ l : List (List Nat), (∀ s ∈ l, s.length ≤ n) → (joinL l).length ≤ l.length * (n + 2)
  | [], _ => Nat.zero_le _
  | [x], h => by
    have := h x List.mem_cons_self
    show x.length ≤ 1 * (n + 2)
    omega
  | x :: y :: r, h => by
    have a := h x List.mem_cons_self
    have b := joinL_len (y :: r) fun s hs => h s (List.mem_cons_of_mem _ hs)
    show (x ++ 44 :: 32 :: joinL (y :: r)).length ≤ ((y :: r).length + 1) * (n + 2)
    rw [List.length_append, List.length_cons, List.length_cons, Nat.succ_mul]
    omega
theorem tupL_len {n : Nat} {l : List (List Nat)} (h : ∀ s ∈ l, s.length ≤ n) : (tupL l).length ≤ l.length * (n + 2) + 3 := by
  have a := joinL_len l h
  unfold tupL
  rw [List.length_cons, List.length_append]
  by_cases e : l.length = 1
  · rw [if_pos e]
    show _ + 2 + 1 ≤ _
    omega
  · rw [if_neg e]
    show _ + 1 + 1 ≤ _
    omega
theorem joinL_asc : ∀ l : List (List Nat), (∀ s ∈ l, ∀ c ∈ s, c < 128) → ∀ c ∈ joinL l, c < 128
  | [], _, c, hc => absurd hc List.not_mem_nil
  | [x], h, c, hc => h x List.mem_cons_self c hc
  | x :: y :: r, h, c, hc => by
    rcases List.mem_append.mp hc with hc | hc
    · exact h x List.mem_cons_self c hc
    · rcases List.mem_cons.mp hc with rfl | hc
      · decide
      · rcases List.mem_cons.mp hc with rfl | hc
        · decide
        · exact joinL_asc (y :: r) (fun s hs => h s (List.mem_cons_of_mem _ hs)) c hc
theorem tupL_asc {l : List (List Nat)} (h : ∀ s ∈ l, ∀ c ∈ s, c < 128) : ∀ c ∈ tupL l, c < 128 := fun c hc => by
  rcases List.mem_cons.mp hc with rfl | hc
  · decide
  · rcases List.mem_append.mp hc with hc | hc
    · exact joinL_asc l h c hc
    · by_cases e : l.length = 1
      · rw [if_pos e] at hc
        simp at hc
        omega
      · rw [if_neg e] at hc
        simp at hc
        omega
theorem ok_asc {x : Str} (h : ∀ c ∈ txL x, c < 128) : PyData.strOk x = true := by
  show x.cps.all (· < 0x110000) = true
  rw [← Array.all_toList, List.all_eq_true]
  exact fun c hc => decide_eq_true (Nat.lt_trans (h c hc) (by decide))
structure PyN (k n : Nat) (p : PyData) : Prop where
  show_ : p.showable = true
  depth : p.depth ≤ k
  len : p.shown.length ≤ n
theorem pyn_all {k n : Nat} : ∀ {ps : List PyData}, (∀ p ∈ ps, PyN k n p) → PyData.showableAll ps = true ∧ PyData.depthAll ps ≤ k ∧ PyData.shownAll ps = ps.map PyData.shown
  | [], _ => ⟨rfl, Nat.zero_le _, rfl⟩
  | p :: ps, h => by
    obtain ⟨h1, h2, h3⟩ := pyn_all (ps := ps) fun x hx => h x (List.mem_cons_of_mem _ hx)
    have q := h p List.mem_cons_self
    refine ⟨?_, ?_, ?_⟩
    · show (p.showable && PyData.showableAll ps) = true
      rw [q.show_, h1]
      rfl
    · show PyData.depthAll (p :: ps) ≤ k
      unfold PyData.depthAll
      exact Nat.max_le.mpr ⟨q.depth, h2⟩
    · show PyData.shown p :: PyData.shownAll ps = _
      rw [h3]
      rfl
theorem pyn_tup {k n m : Nat} {ps : List PyData} (h : ∀ p ∈ ps, PyN k n p) (hm : ps.length ≤ m) : PyN (k + 1) (m * (n + 2) + 3) (.tuple ps) ∧ (PyData.tuple ps).shown = tupleText (ps.map PyData.shown) := by
  obtain ⟨h1, h2, h3⟩ := pyn_all h
  have e : (PyData.tuple ps).shown = tupleText (ps.map PyData.shown) := by
    show tupleText (PyData.shownAll ps) = _
    rw [h3]
  refine ⟨⟨h1, ?_, ?_⟩, e⟩
  · show PyData.depth (.tuple ps) ≤ k + 1
    unfold PyData.depth
    omega
  · rw [e, ← txL_len, txL_tup]
    have a := tupL_len (n := n) (l := (ps.map PyData.shown).map txL) fun s hs => by
      obtain ⟨x, hx, rfl⟩ := List.mem_map.mp hs
      obtain ⟨p, hp, rfl⟩ := List.mem_map.mp hx
      rw [txL_len]
      exact (h p hp).len
    rw [List.length_map, List.length_map] at a
    have b : ps.length * (n + 2) ≤ m * (n + 2) := Nat.mul_le_mul_right _ hm
    omega
def pyX (d : D) : PyData := if d.plain then d.py else d.pyK
structure ItF (d : D) : Prop where
  ty : Tyk d
  st : ∀ w, d = .str w → PyData.strOk w = true
  nk : PyN 4 300 (pyX d)
  asc : ∀ c ∈ txL (pyX d).shown, c < 128
  tx : Flat (txL (pyX d).shown) ∨ Brk (txL (pyX d).shown)
def Tgt (ds : List D) : Prop := (∀ d ∈ ds, d.plain = true) ∨ (∀ d ∈ ds, d.plainK = true ∧ pyX d = d.pyK)
theorem plainL_of : ∀ {ds : List D}, (∀ d ∈ ds, d.plain = true) → plainL ds = true ∧ pyL ds = ds.map pyX
  | [], _ => ⟨rfl, rfl⟩
  | d :: ds, h => by
    obtain ⟨a, b⟩ := plainL_of (ds := ds) fun x hx => h x (List.mem_cons_of_mem _ hx)
    have q := h d List.mem_cons_self
    refine ⟨?_, ?_⟩
    · show (d.plain && plainL ds) = true
      rw [q, a]
      rfl
    · show d.py :: pyL ds = pyX d :: ds.map pyX
      rw [b]
      unfold pyX
      rw [if_pos q]
theorem plainKL_of : ∀ {ds : List D}, (∀ d ∈ ds, d.plainK = true ∧ pyX d = d.pyK) → plainKL ds = true ∧ pyKL ds = ds.map pyX
  | [], _ => ⟨by unfold plainKL; rfl, by unfold pyKL; rfl⟩
  | d :: ds, h => by
    obtain ⟨a, b⟩ := plainKL_of (ds := ds) fun x hx => h x (List.mem_cons_of_mem _ hx)
    have q := h d List.mem_cons_self
    refine ⟨?_, ?_⟩
    · unfold plainKL
      rw [q.1, a]
      rfl
    · unfold pyKL
      rw [b, ← q.2]
      rfl
theorem repr_tup {ds : List D} (h : ∀ d ∈ ds, ItF d) (hg : Tgt ds) (hl : ds.length ≤ 20) : gReprK (.tup ds) = some (.str (tupleText (ds.map fun d => (pyX d).shown))) := by
  have hp : ∀ p ∈ ds.map pyX, PyN 4 300 p := fun p hp => by
    obtain ⟨d, hd, rfl⟩ := List.mem_map.mp hp
    exact (h d hd).nk
  obtain ⟨q, e⟩ := pyn_tup (m := 20) hp (by rw [List.length_map]; exact hl)
  rw [List.map_map] at e
  have big : (20 * (300 + 2) + 3 : Nat) ≤ sizeLine := len_small (by decide)
  by_cases hpl : plainL ds = true
  · have hall : ∀ d ∈ ds, d.plain = true := fun d hd => by
      clear hg q e hp hl h
      induction ds with
      | nil => cases hd
      | cons x ds ih =>
        have hpl : (x.plain && plainL ds) = true := hpl
        rw [Bool.and_eq_true] at hpl
        rcases List.mem_cons.mp hd with rfl | hd
        · exact hpl.1
        · exact ih hpl.2 hd
    obtain ⟨a, b⟩ := plainL_of hall
    have ok : showOk (.tup ds) = true := by
      unfold showOk
      have e1 : (D.tup ds).py = .tuple (ds.map pyX) := by
        show PyData.tuple (pyL ds) = _
        rw [b]
      have e2 : (D.tup ds).plain = true := a
      rw [e1, e2, q.show_, decide_eq_true (Nat.lt_of_le_of_lt q.depth (by decide)), decide_eq_true (Nat.le_trans q.len big)]
      rfl
    have r : gRepr (.tup ds) = some (.str (D.tup ds).py.shown) := if_pos ok
    have e1 : (D.tup ds).py = .tuple (ds.map pyX) := by
      show PyData.tuple (pyL ds) = _
      rw [b]
    rw [e1, e] at r
    exact gReprK_of r
  · have r : gRepr (.tup ds) = none := if_neg fun ok => by
      unfold showOk at ok
      rw [Bool.and_eq_true, Bool.and_eq_true, Bool.and_eq_true] at ok
      exact hpl ok.1.1.1
    have hk : ∀ d ∈ ds, d.plainK = true ∧ pyX d = d.pyK := by
      rcases hg with hg | hg
      · exact absurd (plainL_of hg).1 hpl
      · exact hg
    obtain ⟨a, b⟩ := plainKL_of hk
    have e1 : (D.tup ds).pyK = .tuple (ds.map pyX) := by
      unfold D.pyK
      rw [b]
    have ok : showOkK (.tup ds) = true := by
      unfold showOkK
      have e2 : (D.tup ds).plainK = true := by
        unfold D.plainK
        exact a
      rw [e1, e2, q.show_, decide_eq_true (Nat.lt_of_le_of_lt q.depth (by decide)), decide_eq_true (Nat.le_trans q.len big)]
      rfl
    unfold gReprK
    rw [r]
    show (if showOkK (.tup ds) = true then some (D.str (D.tup ds).pyK.shown) else none) = _
    rw [if_pos ok, e1, e]
    rfl
def SW : List Str := (["left", "lefta", "eft", "left ", "left1", "LEFT", "leftleftleftleftleftleftleftleftleft", "down", "downa", "own", "down ", "down1", "DOWN", "downdowndowndowndowndowndowndowndown", "right", "righta", "ight", "right ", "right1", "RIGHT", "rightrightrightrightrightrightrightrightright", "up", "upa", "p", "up ", "up1", "UP", "upupupupupupupupup", "Up", "Upa", "Up ", "Up1", "UpUpUpUpUpUpUpUpUp", "", "A", "a", "l", "falls", "lrx", "round", "-1", "0", "1", "2", "3", "4", "5", "6", "7", "8", "9"] : List String).map Str.ofString
def odT : List D := [.tn [], .lst [], .dK [], .tup [.int 0], .tup [.int 0, .int 1], .tup [.int 1, .int 0], .lst [.int 0, .int 1], .dK [(.inr "a", .int 1)], .tup [.str "right", .int 0], .tup [.str "falls", .str "", .int 0, .int 1], .tup [.str "round", .int 1], .tup [.int 0, .int 0, .int 0], .tup [.int 0, .int 0, .int 0, .int 0], .tup [.tup [.int 1, .int 0], .tup [.int 0, .int 1]]]
inductive Itm : D → Prop
  | non : Itm .non
  | bl (b : Bool) : Itm (.bl b)
  | int (i : Int) : i.natAbs.log2 < 200 → Itm (.int i)
  | str (w : Str) : w ∈ SW → Itm (.str w)
  | od (d : D) : d ∈ odT → Itm d
inductive Atm : D → Prop
  | non : Atm .non
  | bl (b : Bool) : Atm (.bl b)
  | int (i : Int) : i.natAbs.log2 < 200 → Atm (.int i)
  | str (w : Str) : w ∈ SW → Atm (.str w)
theorem Atm.itm {d : D} (h : Atm d) : Itm d := by
  cases h with
  | non => exact .non
  | bl b => exact .bl b
  | int i h => exact .int i h
  | str w h => exact .str w h
theorem Atm.pl {d : D} (h : Atm d) : d.plain = true ∧ d.plainK = true ∧ pyX d = d.pyK := by
  cases h with
  | non => exact ⟨rfl, by decide +kernel, by unfold pyX D.pyK; rfl⟩
  | bl b => exact ⟨rfl, by unfold D.plainK; rfl, by unfold pyX D.pyK; rfl⟩
  | int i h => exact ⟨rfl, by unfold D.plainK; rfl, by unfold pyX D.pyK; rfl⟩
  | str w h => exact ⟨rfl, by unfold D.plainK; rfl, by unfold pyX D.pyK; rfl⟩
theorem Itm.pl {d : D} (h : Itm d) : d.plain = true ∨ (d.plainK = true ∧ pyX d = d.pyK) := by
  cases h with
  | non => exact .inl Atm.non.pl.1
  | bl b => exact .inl (Atm.bl b).pl.1
  | int i h => exact .inl (Atm.int i h).pl.1
  | str w h => exact .inl (Atm.str w h).pl.1
  | od d h =>
    by_cases e : d.plain = true
    · exact .inl e
    · refine .inr ⟨?_, if_neg e⟩
      have q := List.all_eq_true.mp (by decide +kernel : odT.all (fun d => d.plain || d.plainK) = true) d h
      rw [Bool.or_eq_true] at q
      exact q.resolve_left e
theorem tgt_one {ds es : List D} {o : D} (h1 : ∀ d ∈ ds, Atm d) (h2 : ∀ d ∈ es, Atm d) (ho : Itm o) : Tgt (ds ++ o :: es) := by
  rcases ho.pl with p | p
  · refine .inl fun d hd => ?_
    rcases List.mem_append.mp hd with hd | hd
    · exact (h1 d hd).pl.1
    · rcases List.mem_cons.mp hd with rfl | hd
      · exact p
      · exact (h2 d hd).pl.1
  · refine .inr fun d hd => ?_
    rcases List.mem_append.mp hd with hd | hd
    · exact (h1 d hd).pl.2
    · rcases List.mem_cons.mp hd with rfl | hd
      · exact p
      · exact (h2 d hd).pl.2
theorem tgt_all {ds : List D} (h1 : ∀ d ∈ ds, Atm d) : Tgt ds := .inl fun d hd => (h1 d hd).pl.1
def flatB (s : List Nat) : Bool := !decide (44 ∈ s) && (match s with | [] => false | c :: _ => decide (c ≠ 40 ∧ c ≠ 91 ∧ c ≠ 123))
def brkB (s : List Nat) : Bool := match s with | [] => false | c :: _ => decide (c = 40 ∨ c = 91 ∨ c = 123)
theorem flatB_ok {s : List Nat} (h : flatB s = true) : Flat s := by
  unfold flatB at h
  rw [Bool.and_eq_true, Bool.not_eq_true', decide_eq_false_iff_not] at h
  refine ⟨h.1, ?_⟩
  cases s with
  | nil => cases h.2
  | cons c r => exact ⟨c, r, rfl, of_decide_eq_true h.2⟩
theorem brkB_ok {s : List Nat} (h : brkB s = true) : Brk s := by
  cases s with
  | nil => cases h
  | cons c r => exact ⟨c, r, rfl, of_decide_eq_true h⟩
def swB (w : Str) : Bool := PyData.strOk w && (decide ((reprText w).length ≤ 300) && ((txL (reprText w)).all (fun c => decide (c < 128)) && (flatB (txL (reprText w)) && decide ((txL (reprText w)).head? = some 39))))
theorem sw_all : SW.all swB = true := by decide +kernel
def odB (d : D) : Bool := (tyD d).isSome && ((pyX d).showable && (decide ((pyX d).depth ≤ 4) && (decide ((pyX d).shown.length ≤ 300) && ((txL (pyX d).shown).all (fun c => decide (c < 128)) && (brkB (txL (pyX d).shown) && !isSt d)))))
theorem od_all : odT.all odB = true := by decide +kernel
theorem int_len {i : Int} (h : i.natAbs.log2 < 200) : (Str.ofString (toString i)).length ≤ 201 := by
  rw [PySem.ofString_length]
  exact int_text_length_le (by decide) h
theorem Itm.f {d : D} (h : Itm d) : ItF d := by
  cases h with
  | non => exact ⟨rfl, fun w e => (nomatch e), ⟨rfl, by decide +kernel, by decide +kernel⟩, by decide +kernel, .inl (flatB_ok (by decide +kernel))⟩
  | bl b =>
    cases b
    · exact ⟨rfl, fun w e => (nomatch e), ⟨rfl, by decide +kernel, by decide +kernel⟩, by decide +kernel, .inl (flatB_ok (by decide +kernel))⟩
    · exact ⟨rfl, fun w e => (nomatch e), ⟨rfl, by decide +kernel, by decide +kernel⟩, by decide +kernel, .inl (flatB_ok (by decide +kernel))⟩
  | int i h =>
    have e : txL (pyX (.int i)).shown = intL i := txL_int i
    refine ⟨rfl, fun w e => (nomatch e), ⟨decide_eq_true (by omega), Nat.zero_le _, ?_⟩, ?_, .inl ?_⟩
    · exact Nat.le_trans (int_len h) (by decide)
    · rw [e]
      intro c hc
      have := intL_sgn i c hc
      omega
    · rw [e]
      exact intL_flat i
  | str w h =>
    have q := List.all_eq_true.mp sw_all w h
    unfold swB at q
    rw [Bool.and_eq_true, Bool.and_eq_true, Bool.and_eq_true, Bool.and_eq_true] at q
    obtain ⟨q1, q2, q3, q4, q5⟩ := q
    refine ⟨rfl, fun v e => (by cases e; exact q1), ⟨rfl, Nat.zero_le _, of_decide_eq_true q2⟩, fun c hc => of_decide_eq_true (List.all_eq_true.mp q3 c hc), .inl (flatB_ok q4)⟩
  | od d h =>
    have q := List.all_eq_true.mp od_all d h
    unfold odB at q
    rw [Bool.and_eq_true, Bool.and_eq_true, Bool.and_eq_true, Bool.and_eq_true, Bool.and_eq_true, Bool.and_eq_true] at q
    obtain ⟨q1, q2, q3, q4, q5, q6, q7⟩ := q
    exact ⟨q1, fun w e => (by subst e; cases q7), ⟨q2, of_decide_eq_true q3, of_decide_eq_true q4⟩, fun c hc => of_decide_eq_true (List.all_eq_true.mp q5 c hc), .inr (brkB_ok q6)⟩
inductive Eit : D → Prop
  | n (k : Nat) : Eit (nN k)
  | s (s : Sd) : Eit (sdD s)
theorem sd_sw (s : Sd) : sdS s ∈ SW := by cases s <;> decide +kernel
theorem sw_sd : (SW.all fun w => [Sd.down, .left, .right, .up].all fun s => !decide (txL (reprText w) = txL (reprText (sdS s))) || decide (w = sdS s)) = true := by decide +kernel
theorem eit_eq {d e : D} (hd : Itm d) (he : Eit e) (h : txL (pyX d).shown = txL (pyX e).shown) : d = e := by
  have hn : ∀ k : Nat, txL (pyX (nN k)).shown = natL k := fun k => by
    have q : txL (pyX (nN k)).shown = intL (k : Int) := txL_int k
    rw [q, intL_eq, if_pos (Int.natCast_nonneg k)]
    rfl
  have hs : ∀ w ∈ SW, (txL (pyX (.str w)).shown).head? = some 39 := fun w hw => by
    have q := List.all_eq_true.mp sw_all w hw
    unfold swB at q
    rw [Bool.and_eq_true, Bool.and_eq_true, Bool.and_eq_true, Bool.and_eq_true] at q
    exact of_decide_eq_true q.2.2.2.2
  have hh : ∀ k : Nat, ∃ c, (natL k).head? = some c ∧ 48 ≤ c ∧ c ≤ 57 := fun k => by
    cases q : natL k with
    | nil => exact absurd q (natL_ne k)
    | cons c r => exact ⟨c, rfl, natL_dig k c (by rw [q]; exact List.mem_cons_self)⟩
  have hi : ∀ i : Int, ∃ c, (intL i).head? = some c ∧ (c = 45 ∨ 48 ≤ c ∧ c ≤ 57) := fun i => by
    cases q : intL i with
    | nil => exact absurd q (intL_ne i)
    | cons c r => exact ⟨c, rfl, intL_sgn i c (by rw [q]; exact List.mem_cons_self)⟩
  have hb : ∀ d ∈ odT, ∃ c, (txL (pyX d).shown).head? = some c ∧ (c = 40 ∨ c = 91 ∨ c = 123) := fun d hd => by
    have q := List.all_eq_true.mp od_all d hd
    unfold odB at q
    rw [Bool.and_eq_true, Bool.and_eq_true, Bool.and_eq_true, Bool.and_eq_true, Bool.and_eq_true, Bool.and_eq_true] at q
    obtain ⟨c, r, e, hc⟩ := brkB_ok q.2.2.2.2.2.1
    exact ⟨c, by rw [e]; rfl, hc⟩
  cases he with
  | n k =>
    rw [hn] at h
    obtain ⟨c, hc, h1, h2⟩ := hh k
    cases hd with
    | non =>
      have z : (txL (pyX .non).shown).head? = some 78 := by decide +kernel
      rw [h, hc] at z
      have := Option.some.inj z
      omega
    | bl b =>
      have z : (txL (pyX (.bl b)).shown).head? = some (if b then 84 else 70) := by cases b <;> decide +kernel
      rw [h, hc] at z
      have := Option.some.inj z
      cases b <;> simp at this <;> omega
    | int i _ =>
      have q : txL (pyX (.int i)).shown = intL i := txL_int i
      rw [q] at h
      have e : intL (k : Int) = natL k := by
        rw [intL_eq, if_pos (Int.natCast_nonneg k)]
        rfl
      rw [← e] at h
      rw [intL_inj h]
      rfl
    | str w hw =>
      have z := hs w hw
      rw [h, hc] at z
      have := Option.some.inj z
      omega
    | od d hd =>
      obtain ⟨x, hx, ho⟩ := hb d hd
      rw [h, hc] at hx
      have := Option.some.inj hx
      omega
  | s s =>
    have hq := hs _ (sd_sw s)
    have hq : (txL (pyX (sdD s)).shown).head? = some 39 := hq
    cases hd with
    | non =>
      have z : (txL (pyX .non).shown).head? = some 78 := by decide +kernel
      rw [h, hq] at z
      cases z
    | bl b =>
      have z : (txL (pyX (.bl b)).shown).head? = some (if b then 84 else 70) := by cases b <;> decide +kernel
      rw [h, hq] at z
      cases b <;> cases z
    | int i _ =>
      have q : txL (pyX (.int i)).shown = intL i := txL_int i
      obtain ⟨c, hc, h1⟩ := hi i
      rw [← q, h, hq] at hc
      have := Option.some.inj hc
      omega
    | str w hw =>
      have q := List.all_eq_true.mp (List.all_eq_true.mp sw_sd w hw) s (by cases s <;> decide)
      rw [Bool.or_eq_true, Bool.not_eq_true', decide_eq_false_iff_not, decide_eq_true_eq] at q
      have h : txL (reprText w) = txL (reprText (sdS s)) := h
      rcases q with q | q
      · exact absurd h q
      · rw [q]
        rfl
    | od d hd =>
      obtain ⟨x, hx, ho⟩ := hb d hd
      rw [h, hq] at hx
      have := Option.some.inj hx
      omega
inductive Thn : D → Prop
  | tup (ds : List D) : (∀ d ∈ ds, Itm d) → Tgt ds → ds.length ≤ 20 → Thn (.tup ds)
  | lst (ds : List D) : (∀ d ∈ ds, Itm d) → Thn (.lst ds)
  | itm (d : D) : Itm d → Thn d
theorem atm_i {i : Int} (h : -1000 ≤ i ∧ i ≤ 1000) : Atm (.int i) := .int i (by
  have a : i.natAbs ≤ 1000 := by omega
  by_cases z : i.natAbs = 0
  · rw [z]
    decide
  · have b : i.natAbs.log2 ≤ (1000 : Nat).log2 := (Nat.le_log2 (by decide)).mpr (Nat.le_trans ((Nat.le_log2 z).mp (Nat.le_refl _)) a)
    exact Nat.lt_of_le_of_lt b (by decide))
theorem atm_n {n : Nat} (h : n ≤ 1000) : Atm (nN n) := atm_i (i := (n : Int)) (by omega)
theorem atm_s (s : Sd) : Atm (sdD s) := .str _ (sd_sw s)
theorem atm_w {w : Str} (h : SW.contains w = true) : Atm (.str w) := .str w (List.contains_iff_mem.mp h)
theorem lm0 {P : D → Prop} : ∀ d ∈ ([] : List D), P d := fun _ h => nomatch h
theorem lmC {a : D} {l : List D} {P : D → Prop} (h : P a) (hl : ∀ d ∈ l, P d) : ∀ d ∈ a :: l, P d := fun d hd => by
  rcases List.mem_cons.mp hd with rfl | hd
  · exact h
  · exact hl d hd
theorem od_tup {ds : List D} (h : D.tup ds ∈ odT) : (∀ d ∈ ds, Itm d) ∧ Tgt ds ∧ ds.length ≤ 20 := by
  have at_ : (∀ d ∈ ds, Atm d) → ds.length ≤ 20 → (∀ d ∈ ds, Itm d) ∧ Tgt ds ∧ ds.length ≤ 20 := fun q l => ⟨fun d hd => (q d hd).itm, tgt_all q, l⟩
  have z : Atm (.int 0) := atm_i (by decide)
  have o : Atm (.int 1) := atm_i (by decide)
  unfold odT at h
  simp only [List.mem_cons, List.not_mem_nil, or_false, reduceCtorEq, false_or, D.tup.injEq] at h
  rcases h with rfl | rfl | rfl | rfl | rfl | rfl | rfl | rfl | rfl
  · exact at_ (lmC z lm0) (by decide)
  · exact at_ (lmC z (lmC o lm0)) (by decide)
  · exact at_ (lmC o (lmC z lm0)) (by decide)
  · exact at_ (lmC (atm_w (by decide +kernel)) (lmC z lm0)) (by decide)
  · exact at_ (lmC (atm_w (by decide +kernel)) (lmC (atm_w (by decide +kernel)) (lmC z (lmC o lm0)))) (by decide)
  · exact at_ (lmC (atm_w (by decide +kernel)) (lmC o lm0)) (by decide)
  · exact at_ (lmC z (lmC z (lmC z lm0))) (by decide)
  · exact at_ (lmC z (lmC z (lmC z (lmC z lm0)))) (by decide)
  · refine ⟨lmC (.od _ (by unfold odT; simp)) (lmC (.od _ (by unfold odT; simp)) lm0), .inl (lmC rfl (lmC rfl lm0)), by decide⟩
theorem od_tn {ds : List D} (h : D.tn ds ∈ odT) : ds = [] := by
  unfold odT at h
  simp only [List.mem_cons, List.not_mem_nil, or_false, reduceCtorEq, D.tn.injEq] at h
  exact h
theorem Thn.form {x : D} (h : Thn x) : (∃ ds, x = .tup ds ∧ (∀ d ∈ ds, Itm d) ∧ Tgt ds ∧ ds.length ≤ 20) ∨ x = .tn [] ∨ ((∀ ds, x ≠ .tup ds) ∧ (∀ ds, x ≠ .tn ds) ∧ Tyk x) := by
  cases h with
  | tup ds h1 h2 h3 => exact .inl ⟨ds, rfl, h1, h2, h3⟩
  | lst ds h1 => exact .inr (.inr ⟨fun _ e => (nomatch e), fun _ e => (nomatch e), rfl⟩)
  | itm d h =>
    cases h with
    | non => exact .inr (.inr ⟨fun _ e => (nomatch e), fun _ e => (nomatch e), rfl⟩)
    | bl b => exact .inr (.inr ⟨fun _ e => (nomatch e), fun _ e => (nomatch e), rfl⟩)
    | int i h => exact .inr (.inr ⟨fun _ e => (nomatch e), fun _ e => (nomatch e), rfl⟩)
    | str w h => exact .inr (.inr ⟨fun _ e => (nomatch e), fun _ e => (nomatch e), rfl⟩)
    | od d h =>
      cases x with
      | tup ds => exact .inl ⟨ds, rfl, od_tup h⟩
      | tn ds =>
        rw [od_tn h]
        exact .inr (.inl rfl)
      | _ => exact .inr (.inr ⟨fun _ e => (nomatch e), fun _ e => (nomatch e), (Itm.od _ h).f.ty⟩)
theorem Thn.thg {x : D} (h : Thn x) : Thg x ∧ Stx x := by
  rcases h.form with ⟨ds, rfl, h1, h2, h3⟩ | rfl | ⟨h1, h2, h3⟩
  · exact ⟨⟨rfl, fun es e d hd => by cases e; exact (h1 d hd).f.ty, fun es e => nomatch e⟩, fun es e w hw => by cases e; exact (h1 _ hw).f.st w rfl⟩
  · exact ⟨⟨rfl, fun es e => (nomatch e), fun es e => by cases e; rfl⟩, fun es e => nomatch e⟩
  · exact ⟨⟨h3, fun es e => absurd e (h1 es), fun es e => absurd e (h2 es)⟩, fun es e => absurd e (h1 es)⟩
def tpX (ds : List D) : Str := tupleText (ds.map fun d => (pyX d).shown)
theorem tpX_L (ds : List D) : txL (tpX ds) = tupL (ds.map fun d => txL (pyX d).shown) := by
  unfold tpX
  rw [txL_tup, List.map_map]
  rfl
theorem tpX_ok {ds : List D} (h : ∀ d ∈ ds, Itm d) : PyData.strOk (tpX ds) = true := ok_asc (by
  rw [tpX_L]
  exact tupL_asc fun s hs c hc => by
    obtain ⟨d, hd, rfl⟩ := List.mem_map.mp hs
    exact (h d hd).f.asc c hc)
theorem eit_flat {e : D} (h : Eit e) : Flat (txL (pyX e).shown) := by
  cases h with
  | n k =>
    have q : txL (pyX (nN k)).shown = intL (k : Int) := txL_int k
    rw [q]
    exact intL_flat _
  | s s => cases s <;> exact flatB_ok (by decide +kernel)
theorem items_eq : ∀ {ds es : List D}, (∀ d ∈ ds, Itm d) → (∀ e ∈ es, Eit e) → ds.map (fun d => txL (pyX d).shown) = es.map (fun d => txL (pyX d).shown) → ds = es
  | [], [], _, _, _ => rfl
  | [], _ :: _, _, _, h => nomatch h
  | _ :: _, [], _, _, h => nomatch h
  | d :: ds, e :: es, h1, h2, h => by
    have h := List.cons.inj h
    rw [eit_eq (h1 d List.mem_cons_self) (h2 e List.mem_cons_self) h.1, items_eq (fun x hx => h1 x (List.mem_cons_of_mem _ hx)) (fun x hx => h2 x (List.mem_cons_of_mem _ hx)) h.2]
theorem tpX_eq {ds es : List D} (h1 : ∀ d ∈ ds, Itm d) (h2 : ∀ e ∈ es, Eit e) (h3 : 2 ≤ es.length) (h : tpX ds = tpX es) : ds = es := by
  have q := congrArg txL h
  rw [tpX_L, tpX_L] at q
  refine items_eq h1 h2 (tup_eq (fun s hs => ?_) (fun s hs => ?_) (by rw [List.length_map]; exact h3) q)
  · obtain ⟨d, hd, rfl⟩ := List.mem_map.mp hs
    exact eit_flat (h2 d hd)
  · obtain ⟨d, hd, rfl⟩ := List.mem_map.mp hs
    exact (h1 d hd).f.tx
structure Tgts {α : Type} (g : α → List D) (a : α) : Prop where
  it : ∀ e ∈ g a, Atm e
  ei : ∀ e ∈ g a, Eit e
  l2 : 2 ≤ (g a).length
  l9 : (g a).length ≤ 20
section
variable {α : Type} {g : α → List D} {x : D} {B : Bg}
theorem one_of_ok (as : List α) (hg : ∀ a ∈ as, Tgts g a) (hl : as.length ≤ 10000) (hx : Thn x) : ∃ b, m_law_is_one_of [x, .lst (as.map fun a => .tup (g a))] B = some (.bl b, B) ∧ (b = true ↔ ∃ a ∈ as, x = .tup (g a)) := by
  have it := gi_tup hx.thg.1.ty
  have i1 : x1 (gInst "tuple") (xV 0) [some x, some (.lst (as.map fun a => .tup (g a))), none] B = some (.bl (isTp x), B) := x1_run rfl it
  have lc : xLC [2] (tN 2) (xIt (xV 1)) xYes (x1 gReprK (xV 2)) [some x, some (.lst (as.map fun a => .tup (g a))), none] B = some (.lst (as.map fun a => .str (tpX (g a))), B) := by
    refine lc_run (it_run (d := .lst (as.map fun a => .tup (g a))) rfl rfl) (lc_mp (fun a => .tup (g a)) (fun a => .str (tpX (g a))) as fun a ha => ⟨_, rfl, x1_run rfl (repr_tup (fun d hd => ((hg a ha).it d hd).itm.f) (tgt_all (hg a ha).it) (hg a ha).l9)⟩) ?_
    rw [List.length_map]
    exact len_small (by omega)
  have fin : ∀ {k : WdT}, isTp x = true → gReprK x = some (.str k.1) → m_law_is_one_of [x, .lst (as.map fun a => .tup (g a))] B = some (.bl (decide (k ∈ as.attach.map fun a => (⟨tpX (g a.1), tpX_ok fun d hd => ((hg a.1 a.2).it d hd).itm⟩ : WdT))), B) := fun {k} ht hr => by
    rw [ht] at i1
    refine fn_run rfl (ret_run (and_t i1 (x2_run (x1_run rfl hr) lc ?_)))
    have e : (as.map fun a => D.str (tpX (g a))) = (as.attach.map fun a => (⟨tpX (g a.1), tpX_ok fun d hd => ((hg a.1 a.2).it d hd).itm⟩ : WdT)).map wdtD := by
      rw [List.map_map]
      show _ = as.attach.map ((fun a => D.str (tpX (g a))) ∘ Subtype.val)
      rw [← List.map_map, List.attach_map_subtype_val]
    rw [e]
    exact enc_wdt.yL (by decide) k _
  rcases hx.form with ⟨ds, rfl, h1, h2, h3⟩ | rfl | ⟨h1, h2, h3⟩
  · have r := repr_tup (fun d hd => (h1 d hd).f) h2 h3
    have q := fin (k := ⟨tpX ds, tpX_ok h1⟩) rfl r
    refine ⟨_, q, ?_⟩
    rw [decide_eq_true_eq, List.mem_map]
    constructor
    · rintro ⟨a, _, e⟩
      have e : tpX (g a.1) = tpX ds := congrArg Subtype.val e
      exact ⟨a.1, a.2, by rw [tpX_eq h1 (hg a.1 a.2).ei (hg a.1 a.2).l2 e.symm]⟩
    · rintro ⟨a, ha, e⟩
      have e := D.tup.inj e
      exact ⟨⟨a, ha⟩, List.mem_attach _ _, Subtype.ext (congrArg tpX e.symm)⟩
  · have ok : showOk (.tn []) = true := by
      unfold showOk
      rw [decide_eq_true (Nat.le_trans (by decide +kernel : (D.tn []).py.shown.length ≤ 2) (len_small (by decide)))]
      decide +kernel
    have r0 : gRepr (.tn []) = some (.str (D.tn []).py.shown) := if_pos (e := (none : Option D)) ok
    have e0 : (D.tn []).py.shown = tpX [] := rfl
    rw [e0] at r0
    have r := gReprK_of r0
    have q := fin (k := ⟨tpX [], tpX_ok fun d hd => nomatch hd⟩) rfl r
    refine ⟨_, q, ?_⟩
    rw [decide_eq_true_eq, List.mem_map]
    constructor
    · rintro ⟨a, _, e⟩
      have e : tpX (g a.1) = tpX [] := congrArg Subtype.val e
      have z := tpX_eq (ds := []) (fun d hd => nomatch hd) (hg a.1 a.2).ei (hg a.1 a.2).l2 e.symm
      have := (hg a.1 a.2).l2
      rw [← z] at this
      cases this
    · rintro ⟨a, ha, e⟩
      cases e
  · have z : isTp x = false := by
      cases x with
      | tup ds => exact absurd rfl (h1 ds)
      | tn ds => exact absurd rfl (h2 ds)
      | _ => rfl
    rw [z] at i1
    exact ⟨false, fn_run rfl (ret_run (and_f i1)), ⟨fun h => (nomatch h), fun ⟨a, ha, e⟩ => absurd e (h1 _)⟩⟩
end
def odvA : List D := [.non, .bl true, .bl false, .int 0, .int 1, .int (-1), .int (10 ^ 39), .str "", .str "a", .str "l", .str "falls", .tn [], .lst [], .dK [], .tup [.int 0], .tup [.int 0, .int 1], .tup [.int 1, .int 0], .lst [.int 0, .int 1], .dK [(.inr "a", .int 1)]]
def odvZ : List D := [.tup [.str "right", .int 0], .tup [.str "falls", .str "", .int 0, .int 1], .tup [.str "round", .int 1], .tup [.int 0, .int 0, .int 0], .tup [.int 0, .int 0, .int 0, .int 0], .str "lrx", .tup [.tup [.int 1, .int 0], .tup [.int 0, .int 1]]]
theorem od_mem {d : D} {k : Nat} (h : odT[k]? = some d) : Itm d := .od d (List.mem_of_getElem? h)
theorem odv_itm : ∀ d ∈ odvA ++ odvZ, Itm d := by
  have z : Itm (.int 0) := (atm_i (by decide)).itm
  have o : Itm (.int 1) := (atm_i (by decide)).itm
  have m : Itm (.int (-1)) := (atm_i (by decide)).itm
  have w : ∀ {x : Str}, SW.contains x = true → Itm (.str x) := fun h => (atm_w h).itm
  unfold odvA odvZ
  refine lmC .non (lmC (.bl _) (lmC (.bl _) (lmC z (lmC o (lmC m (lmC (.int _ (by decide +kernel)) (lmC (w (by decide +kernel)) (lmC (w (by decide +kernel)) (lmC (w (by decide +kernel)) (lmC (w (by decide +kernel)) (lmC (od_mem (k := 0) rfl) (lmC (od_mem (k := 1) rfl) (lmC (od_mem (k := 2) rfl) (lmC (od_mem (k := 3) rfl) (lmC (od_mem (k := 4) rfl) (lmC (od_mem (k := 5) rfl) (lmC (od_mem (k := 6) rfl) (lmC (od_mem (k := 7) rfl) ?_))))))))))))))))))
  exact lmC (od_mem (k := 8) rfl) (lmC (od_mem (k := 9) rfl) (lmC (od_mem (k := 10) rfl) (lmC (od_mem (k := 11) rfl) (lmC (od_mem (k := 12) rfl) (lmC (w (by decide +kernel)) (lmC (od_mem (k := 13) rfl) lm0))))))
theorem pow_39 : gPow (.int 10) (.int 39) = some (.int (10 ^ 39)) := by
  show (if (0 : Int) ≤ 39 ∧ (39 : Int) ≤ 1000000 ∧ (10 : Int).natAbs < 2 ^ 64 then some (D.int ((10 : Int) ^ (39 : Int).toNat)) else none) = _
  exact if_pos (by decide)
theorem odd_ok (B : Bg) (hB : Bag B) : ∃ (d : D) (B' : Bg), m_law_odd [.bag] B = some (d, B') ∧ Itm d ∧ Bag B' := by
  obtain ⟨i, d, B', e, hi, hB'⟩ := some_lst B hB (odvA ++ odvZ) (by unfold odvA; exact List.cons_ne_nil _ _) (by unfold odvA odvZ; decide)
  have a1 : gAdd (.lst odvA) (.lst odvZ) = some (.lst (odvA ++ odvZ)) := gAdd_lst (by decide)
  exact ⟨d, B', fn_run rfl (seq_nx (ρ1 := [some .bag, some (.lst odvA)]) (set_run (lst_run (cons_run rfl (cons_run rfl (cons_run rfl (cons_run rfl (cons_run rfl (cons_run rfl (cons_run (x2_run rfl rfl pow_39) rfl))))))))) (ret_run (call_run (cons_run rfl (cons_run (x2_run (y := .lst odvZ) rfl (lst_run rfl) a1) rfl)) e))), odv_itm d (List.mem_of_getElem? hi), hB'⟩
inductive Bat : D → Prop
  | bl (b : Bool) : Bat (.bl b)
  | int (i : Int) : -1 ≤ i → i ≤ 9 → Bat (.int i)
  | str (w : Str) : w ∈ (["left", "down", "right", "up", "Up"] : List Str) → Bat (.str w)
theorem Bat.atm {d : D} (h : Bat d) : Atm d := by
  cases h with
  | bl b => exact .bl b
  | int i h1 h2 => exact atm_i (by omega)
  | str w h =>
    refine .str w ?_
    simp only [List.mem_cons, List.not_mem_nil, or_false] at h
    rcases h with rfl | rfl | rfl | rfl | rfl <;> exact List.contains_iff_mem.mp (by decide +kernel)
def bnS : Ex := (xLst (xCons (x2 gAdd (xV 1) (xC (.str "a"))) (xCons (xSl gSl (xV 1) (xPs (xC (.int 1))) xPn) (xCons (x2 gAdd (xV 1) (xC (.str " "))) (xCons (x2 gAdd (xV 1) (xC (.str "1"))) (xCons (x1 gUpper (xV 1)) (xCons (x2 gMul (xV 1) (xC (.int 9))) (xCons (xC (.str "left")) (xCons (xC (.str "down")) (xCons (xC (.str "")) (xCons (xC (.str "A")) xNil)))))))))))
def bnI : Ex := (xLst (xCons (x2 gAdd (xV 1) (xC (.int 1))) (xCons (x2 gSub (xV 1) (xC (.int 1))) (xCons (x1 gNeg (xV 1)) (xCons (xC .non) (xCons (x2 gEq (xV 1) (xC (.int 1))) (xCons (x1 gStrI (xV 1)) (xCons (xC (.int 0)) (xCons (x2 gMul (xC (.int 2)) (xV 1)) xNil)))))))))
theorem bnS_ok {w : Str} (h : w ∈ (["left", "down", "right", "up", "Up"] : List Str)) (r0 r2 r3 r4 : Option D) (B : Bg) : ∃ ds, bnS [r0, some (.str w), r2, r3, r4] B = some (.lst ds, B) ∧ (∀ d ∈ ds, Atm d) ∧ ds ≠ [] ∧ ds.length < 1000 := by
  simp only [List.mem_cons, List.not_mem_nil, or_false] at h
  rcases h with rfl | rfl | rfl | rfl | rfl
  · exact ⟨[.str "lefta", .str "eft", .str "left ", .str "left1", .str "LEFT", .str "leftleftleftleftleftleftleftleftleft", .str "left", .str "down", .str "", .str "A"], rfl, lmC (atm_w (by decide +kernel)) (lmC (atm_w (by decide +kernel)) (lmC (atm_w (by decide +kernel)) (lmC (atm_w (by decide +kernel)) (lmC (atm_w (by decide +kernel)) (lmC (atm_w (by decide +kernel)) (lmC (atm_w (by decide +kernel)) (lmC (atm_w (by decide +kernel)) (lmC (atm_w (by decide +kernel)) (lmC (atm_w (by decide +kernel)) (lm0)))))))))), List.cons_ne_nil _ _, by decide⟩
  · exact ⟨[.str "downa", .str "own", .str "down ", .str "down1", .str "DOWN", .str "downdowndowndowndowndowndowndowndown", .str "left", .str "down", .str "", .str "A"], rfl, lmC (atm_w (by decide +kernel)) (lmC (atm_w (by decide +kernel)) (lmC (atm_w (by decide +kernel)) (lmC (atm_w (by decide +kernel)) (lmC (atm_w (by decide +kernel)) (lmC (atm_w (by decide +kernel)) (lmC (atm_w (by decide +kernel)) (lmC (atm_w (by decide +kernel)) (lmC (atm_w (by decide +kernel)) (lmC (atm_w (by decide +kernel)) (lm0)))))))))), List.cons_ne_nil _ _, by decide⟩
  · exact ⟨[.str "righta", .str "ight", .str "right ", .str "right1", .str "RIGHT", .str "rightrightrightrightrightrightrightrightright", .str "left", .str "down", .str "", .str "A"], rfl, lmC (atm_w (by decide +kernel)) (lmC (atm_w (by decide +kernel)) (lmC (atm_w (by decide +kernel)) (lmC (atm_w (by decide +kernel)) (lmC (atm_w (by decide +kernel)) (lmC (atm_w (by decide +kernel)) (lmC (atm_w (by decide +kernel)) (lmC (atm_w (by decide +kernel)) (lmC (atm_w (by decide +kernel)) (lmC (atm_w (by decide +kernel)) (lm0)))))))))), List.cons_ne_nil _ _, by decide⟩
  · exact ⟨[.str "upa", .str "p", .str "up ", .str "up1", .str "UP", .str "upupupupupupupupup", .str "left", .str "down", .str "", .str "A"], rfl, lmC (atm_w (by decide +kernel)) (lmC (atm_w (by decide +kernel)) (lmC (atm_w (by decide +kernel)) (lmC (atm_w (by decide +kernel)) (lmC (atm_w (by decide +kernel)) (lmC (atm_w (by decide +kernel)) (lmC (atm_w (by decide +kernel)) (lmC (atm_w (by decide +kernel)) (lmC (atm_w (by decide +kernel)) (lmC (atm_w (by decide +kernel)) (lm0)))))))))), List.cons_ne_nil _ _, by decide⟩
  · exact ⟨[.str "Upa", .str "p", .str "Up ", .str "Up1", .str "UP", .str "UpUpUpUpUpUpUpUpUp", .str "left", .str "down", .str "", .str "A"], rfl, lmC (atm_w (by decide +kernel)) (lmC (atm_w (by decide +kernel)) (lmC (atm_w (by decide +kernel)) (lmC (atm_w (by decide +kernel)) (lmC (atm_w (by decide +kernel)) (lmC (atm_w (by decide +kernel)) (lmC (atm_w (by decide +kernel)) (lmC (atm_w (by decide +kernel)) (lmC (atm_w (by decide +kernel)) (lmC (atm_w (by decide +kernel)) (lm0)))))))))), List.cons_ne_nil _ _, by decide⟩
theorem bnI_ok {i : Int} (h : -1 ≤ i) (h2 : i ≤ 9) (r0 r2 r3 r4 : Option D) (B : Bg) : ∃ ds, bnI [r0, some (.int i), r2, r3, r4] B = some (.lst ds, B) ∧ (∀ d ∈ ds, Atm d) ∧ ds ≠ [] ∧ ds.length < 1000 := by
  have ts : gStrI (.int i) = some (.str (toString i)) := if_pos (by
    have : i.natAbs ≤ 9 := by omega
    rcases (by omega : i.natAbs = 0 ∨ i.natAbs ≠ 0) with z | z
    · rw [z]
      decide
    · exact Nat.lt_of_le_of_lt ((Nat.le_log2 (n := 9) (by decide)).mpr (Nat.le_trans ((Nat.le_log2 z).mp (Nat.le_refl _)) this)) (by decide +kernel))
  have tw : SW.contains ((toString i : String) : Str) = true := by
    have q : ∀ k : Fin 11, SW.contains ((toString ((k.val : Int) - 1) : String) : Str) = true := by decide +kernel
    have := q ⟨(i + 1).toNat, by omega⟩
    have e : (((i + 1).toNat : Nat) : Int) - 1 = i := by omega
    rw [e] at this
    exact this
  refine ⟨[.int (i + 1), .int (i - 1), .int (-i), .non, .bl (decide (i = 1)), .str (toString i), .int 0, .int (2 * i)], lst_run (cons_run (x2_run rfl rfl rfl) (cons_run (x2_run rfl rfl rfl) (cons_run (x1_run rfl rfl) (cons_run rfl (cons_run (x2_run rfl rfl ?_) (cons_run (x1_run rfl ts) (cons_run rfl (cons_run (x2_run rfl rfl rfl) rfl)))))))), ?_, List.cons_ne_nil _ _, by simp⟩
  · exact enc_int.eq (by decide) i 1
  · exact lmC (atm_i (by omega)) (lmC (atm_i (by omega)) (lmC (atm_i (by omega)) (lmC .non (lmC (.bl _) (lmC (atm_w tw) (lmC (atm_i (by omega)) (lmC (atm_i (by omega)) lm0)))))))
def bnC1 (x : Ex) : Sx := (sIf (xAnd (x1 (gInst "str") (xV 1)) (x2 gGt (xCall m_law_take (xCons (xV 0) (xCons (xC (.int 3)) xNil))) (xC (.int 0)))) (sRet (xCall m_law_some (xCons (xV 0) (xCons x xNil)))) sNil)
def bnC2 (x : Ex) : Sx := (sIf (xAnd (xCall m_law_is_int (xCons (xV 1) xNil)) (x2 gGt (xCall m_law_take (xCons (xV 0) (xCons (xC (.int 4)) xNil))) (xC (.int 0)))) (sRet (xCall m_law_some (xCons (xV 0) (xCons x xNil)))) sNil)
def bnC3 : Sx := (sIf (xOr (xNot (x1 (gInst "tuple") (xV 1))) (xOr (x2 gEq (xV 1) (xTupN xNil)) (x2 gEq (xV 2) (xC (.int 0))))) (sRet (xCall m_law_odd (xCons (xV 0) xNil))) sNil)
section
variable {x : D} {k : Option D} {r3 r4 : Option D}
theorem bnC1_no (h : Tyk x) (hs : isSt x = false) (B : Bg) : bnC1 bnS [some .bag, some x, k, r3, r4] B = some (.nx [some .bag, some x, k, r3, r4], B) := by
  have i : x1 (gInst "str") (xV 1) [some .bag, some x, k, r3, r4] B = some (.bl (isSt x), B) := x1_run rfl (gi_str h)
  rw [hs] at i
  exact if_f (and_f i) rfl
theorem bnC2_no (h : Tyk x) (hs : isI x = false) (B : Bg) : bnC2 bnI [some .bag, some x, k, r3, r4] B = some (.nx [some .bag, some x, k, r3, r4], B) := by
  have i := law_is_int_any (B := B) h
  rw [hs] at i
  exact if_f (and_f (call_run (cons_run rfl rfl) i)) rfl
theorem bnC3_odd (h : Tyk x) (hs : isTp x = false) (B : Bg) (hB : Bag B) : ∃ (d : D) (B' : Bg), bnC3 [some .bag, some x, k, r3, r4] B = some (.rt d, B') ∧ Itm d ∧ Bag B' := by
  have i : x1 (gInst "tuple") (xV 1) [some .bag, some x, k, r3, r4] B = some (.bl (isTp x), B) := x1_run rfl (gi_tup h)
  rw [hs] at i
  obtain ⟨d, B', e, hd, hB'⟩ := odd_ok B hB
  exact ⟨d, B', if_t (or_t (not_run i)) (ret_run (call_run (cons_run rfl rfl) e)), hd, hB'⟩
theorem bent_0_ok (h : Bat x) (d0 : D) (B : Bg) (hB : Bag B) : ∃ (d : D) (B' : Bg), m_law_bent_0 [.bag, x, d0] B = some (d, B') ∧ Itm d ∧ Bag B' := by
  cases h with
  | bl b =>
    obtain ⟨d, B', e, hd, hB'⟩ := bnC3_odd (x := .bl b) (k := some d0) (r3 := none) (r4 := none) rfl rfl B hB
    exact ⟨d, B', fn_run rfl (seq_nx (bnC1_no (x := .bl b) rfl rfl B) (seq_nx (bnC2_no (x := .bl b) rfl rfl B) (seq_rt e))), hd, hB'⟩
  | int i h1 h2 =>
    have ii := law_is_int_any (x := .int i) (B := B) rfl
    obtain ⟨v, B1, e1, _, hB1⟩ := take_n B hB 4 (by decide) (by decide)
    have g : x2 gGt (xCall m_law_take (xCons (xV 0) (xCons (xC (.int 4)) xNil))) (xC (.int 0)) [some .bag, some (.int i), some d0, none, none] B = some (.bl (decide (0 < v)), B1) := x2_run (call_run (cons_run rfl (cons_run rfl rfl)) e1) rfl (nN_gt v 0)
    by_cases z : 0 < v
    · rw [decide_eq_true z] at g
      obtain ⟨ds, q, hds, ne, ll⟩ := bnI_ok h1 h2 (some .bag) (some d0) none none B1
      obtain ⟨j, d, B', e, hj, hB'⟩ := some_lst B1 hB1 ds ne ll
      exact ⟨d, B', fn_run rfl (seq_nx (bnC1_no (x := .int i) rfl rfl B) (seq_rt (if_t (and_t (call_run (cons_run rfl rfl) ii) g) (ret_run (call_run (cons_run rfl (cons_run q rfl)) e))))), (hds d (List.mem_of_getElem? hj)).itm, hB'⟩
    · rw [decide_eq_false z] at g
      obtain ⟨d, B', e, hd, hB'⟩ := bnC3_odd (x := .int i) (k := some d0) (r3 := none) (r4 := none) rfl rfl B1 hB1
      exact ⟨d, B', fn_run rfl (seq_nx (bnC1_no (x := .int i) rfl rfl B) (seq_nx (if_f (and_t (call_run (cons_run rfl rfl) ii) g) rfl) (seq_rt e))), hd, hB'⟩
  | str w hw =>
    have i : x1 (gInst "str") (xV 1) [some .bag, some (.str w), some d0, none, none] B = some (.bl true, B) := x1_run rfl (gi_str (x := .str w) rfl)
    obtain ⟨v, B1, e1, _, hB1⟩ := take_n B hB 3 (by decide) (by decide)
    have g : x2 gGt (xCall m_law_take (xCons (xV 0) (xCons (xC (.int 3)) xNil))) (xC (.int 0)) [some .bag, some (.str w), some d0, none, none] B = some (.bl (decide (0 < v)), B1) := x2_run (call_run (cons_run rfl (cons_run rfl rfl)) e1) rfl (nN_gt v 0)
    by_cases z : 0 < v
    · rw [decide_eq_true z] at g
      obtain ⟨ds, q, hds, ne, ll⟩ := bnS_ok hw (some .bag) (some d0) none none B1
      obtain ⟨j, d, B', e, hj, hB'⟩ := some_lst B1 hB1 ds ne ll
      exact ⟨d, B', fn_run rfl (seq_rt (if_t (and_t i g) (ret_run (call_run (cons_run rfl (cons_run q rfl)) e)))), (hds d (List.mem_of_getElem? hj)).itm, hB'⟩
    · rw [decide_eq_false z] at g
      obtain ⟨d, B', e, hd, hB'⟩ := bnC3_odd (x := .str w) (k := some d0) (r3 := none) (r4 := none) rfl rfl B1 hB1
      exact ⟨d, B', fn_run rfl (seq_nx (if_f (and_t i g) rfl) (seq_nx (bnC2_no (x := .str w) rfl rfl B1) (seq_rt e))), hd, hB'⟩
end
inductive Bth : D → Prop
  | tup (ds : List D) : (∀ d ∈ ds, Bat d) → 1 ≤ ds.length → ds.length ≤ 4 → Bth (.tup ds)
  | lst : Bth (.lst [.str "up", .int 0])
theorem Bth.thn {x : D} (h : Bth x) : Thn x := by
  cases h with
  | tup ds h1 h2 h3 => exact .tup ds (fun d hd => (h1 d hd).atm.itm) (tgt_all fun d hd => (h1 d hd).atm) (by omega)
  | lst => exact .lst _ (lmC (atm_w (by decide +kernel)).itm (lmC (atm_i (by decide)).itm lm0))
theorem cutLm {α : Type} {xs : List α} {a b : Option Int} {x : α} (h : x ∈ cutL xs a b) : x ∈ xs := List.mem_of_mem_drop (List.mem_of_mem_take h)
theorem cutLl {α : Type} (xs : List α) (a b : Option Int) : (cutL xs a b).length ≤ xs.length := by
  have := (cut_sub xs a b).length_le
  exact this
theorem bat_lay : ∀ {ds : List D}, (∀ d ∈ ds, Bat d) → plainL ds = true ∧ PyData.canLayAll0 (pyL ds) = true ∧ PyData.depthAll (pyL ds) = 0
  | [], _ => ⟨rfl, rfl, rfl⟩
  | d :: ds, h => by
    obtain ⟨h1, h2, h3⟩ := bat_lay (ds := ds) fun x hx => h x (List.mem_cons_of_mem _ hx)
    have q : d.plain = true ∧ d.py.canLay0 = true ∧ d.py.depth = 0 := by
      have hb := h d List.mem_cons_self
      have ha := hb.atm.itm.f.st
      cases hb with
      | bl b => exact ⟨rfl, rfl, rfl⟩
      | int i _ _ => exact ⟨rfl, rfl, rfl⟩
      | str w hw => exact ⟨rfl, ha w rfl, rfl⟩
    refine ⟨?_, ?_, ?_⟩
    · show (d.plain && plainL ds) = true
      rw [q.1, h1]
      rfl
    · show (d.py.canLay0 && PyData.canLayAll0 (pyL ds)) = true
      rw [q.2.1, h2]
      rfl
    · show PyData.depthAll (d.py :: pyL ds) = 0
      unfold PyData.depthAll
      rw [q.2.2, h3]
      rfl
theorem tup_ne_tn {ds : List D} (h : ∀ d ∈ ds, Bat d) (h1 : 1 ≤ ds.length) : gEq (.tup ds) (.tn []) = some (.bl false) := by
  obtain ⟨p1, p2, p3⟩ := bat_lay h
  have sh : SeqAt.shaped (D.tup ds).py = true := by
    unfold SeqAt.shaped
    have e1 : (D.tup ds).py.canLay0 = true := p2
    have e2 : (D.tup ds).py.depth = 1 := by
      show PyData.depth (.tuple (pyL ds)) = 1
      unfold PyData.depth
      rw [p3]
    rw [e1, e2]
    decide
  have o : eqOk (.tup ds) (.tn []) = true := by
    unfold eqOk
    have e : (D.tup ds).plain = true := p1
    rw [e, sh]
    decide +kernel
  unfold gEq
  rw [if_pos o]
  unfold eqB
  cases ds with
  | nil => cases h1
  | cons d ds =>
    show some (D.bl (PyData.eqv (.tuple (d.py :: pyL ds)) (.tuple []))) = _
    unfold PyData.eqv
    rfl
theorem slT {fa : Ex} {fl fh : Exo} {ρ : Env} {B : Bg} {ds : List D} {lo hi : Option Int} (e : fa ρ B = some (.tup ds, B)) (e2 : fl ρ B = some (lo, B)) (e3 : fh ρ B = some (hi, B)) : xSl gSl fa fl fh ρ B = some (.tup (cutL ds lo hi), B) := by
  unfold xSl
  rw [e, Option.bind_some, e2, Option.bind_some, e3, Option.bind_some]
  rfl
theorem psR {f : Ex} {ρ : Env} {B : Bg} {k : Int} (e : f ρ B = some (.int k, B)) : xPs f ρ B = some (some k, B) := by
  unfold xPs
  rw [e]
  rfl
theorem pnR {ρ : Env} {B : Bg} : xPn ρ B = some (none, B) := rfl
def bnE (ds : List D) (w a : Nat) : Env := [some .bag, some (.tup ds), some (.int 1), some (nN w), some (nN a)]
section
variable {ds : List D} {w a : Nat}
theorem bnA (B : Bg) : xSl gSl (xV 1) xPn (xPs (xV 4)) (bnE ds w a) B = some (.tup (cutL ds none (some (a : Int))), B) := slT rfl pnR (psR rfl)
theorem bnB (B : Bg) : xSl gSl (xV 1) (xPs (x2 gAdd (xV 4) (xC (.int 1)))) xPn (bnE ds w a) B = some (.tup (cutL ds (some ((a : Int) + 1)) none), B) := slT rfl (psR (x2_run rfl rfl rfl)) pnR
theorem bnD (B : Bg) : xSl gSl (xV 1) (xPs (xV 4)) xPn (bnE ds w a) B = some (.tup (cutL ds (some (a : Int)) none), B) := slT rfl (psR rfl) pnR
theorem bnG (B : Bg) : xSl gSl (xV 1) (xPs (xV 4)) (xPs (x2 gAdd (xV 4) (xC (.int 1)))) (bnE ds w a) B = some (.tup (cutL ds (some (a : Int)) (some ((a : Int) + 1))), B) := slT rfl (psR rfl) (psR (x2_run rfl rfl rfl))
theorem bnW (j : Nat) (B : Bg) : x2 gEq (xV 3) (xC (nN j)) (bnE ds w a) B = some (.bl (decide (w = j)), B) := x2_run rfl rfl (nN_eq w j)
end
theorem thn_at {xs : List D} (p : ∀ d ∈ xs, Atm d) (l : xs.length ≤ 20) : Thn (.tup xs) := .tup _ (fun d hd => (p d hd).itm) (tgt_all p) l
theorem thn_in {xs ys : List D} {o : D} (p : ∀ d ∈ xs, Atm d) (q : ∀ d ∈ ys, Atm d) (ho : Itm o) (l1 : xs.length ≤ 4) (l2 : ys.length ≤ 4) : Thn (.tup ((xs ++ [o]) ++ ys)) := by
  rw [List.append_assoc]
  refine .tup _ (fun d hd => ?_) (tgt_one p q ho) (by simp only [List.length_append, List.length_cons, List.length_nil]; omega)
  rcases List.mem_append.mp hd with hd | hd
  · exact (p d hd).itm
  · rcases List.mem_cons.mp hd with rfl | hd
    · exact ho
    · exact (q d hd).itm
def bnT : Sx := (sSeq (sIf (x2 gEq (xV 3) (xC (.int 0))) (sRet (x1 gList (xV 1))) sNil) (sSeq (sIf (x2 gEq (xV 3) (xC (.int 1))) (sRet (x2 gAdd (xSl gSl (xV 1) xPn (xPs (xV 4))) (xSl gSl (xV 1) (xPs (x2 gAdd (xV 4) (xC (.int 1)))) xPn))) sNil) (sSeq (sIf (x2 gEq (xV 3) (xC (.int 2))) (sRet (x2 gAdd (x2 gAdd (xSl gSl (xV 1) xPn (xPs (xV 4))) (xTup (xCons (xCall m_law_odd (xCons (xV 0) xNil)) xNil))) (xSl gSl (xV 1) (xPs (xV 4)) xPn))) sNil) (sSeq (sIf (x2 gEq (xV 3) (xC (.int 3))) (sRet (x1 gRev2 (xV 1))) sNil) (sSeq (sIf (x2 gEq (xV 3) (xC (.int 4))) (sRet (x2 gAdd (x2 gAdd (xSl gSl (xV 1) xPn (xPs (xV 4))) (xSl gSl (xV 1) (xPs (xV 4)) (xPs (x2 gAdd (xV 4) (xC (.int 1)))))) (xSl gSl (xV 1) (xPs (xV 4)) xPn))) sNil) (sRet (x2 gAdd (x2 gAdd (xSl gSl (xV 1) xPn (xPs (xV 4))) (xTup (xCons (xCall m_law_bent_0 (xCons (xV 0) (xCons (x2 gIx (xV 1) (xV 4)) (xCons (x2 gSub (xV 2) (xC (.int 1))) xNil)))) xNil))) (xSl gSl (xV 1) (xPs (x2 gAdd (xV 4) (xC (.int 1)))) xPn))))))))
def bnP : Sx := sPar [3, 4] (xCons (xCall m_law_take (xCons (xV 0) (xCons (xC (.int 14)) xNil))) (xCons (xCall m_law_take (xCons (xV 0) (xCons (x1 gLen (xV 1)) xNil))) xNil))
theorem bent_1_form : b_law_bent_1 = sSeq (bnC1 bnS) (sSeq (bnC2 bnI) (sSeq bnC3 (sSeq bnP bnT))) := rfl
theorem bnT_ok {ds : List D} (h1 : ∀ d ∈ ds, Bat d) (h3 : ds.length ≤ 4) (w : Nat) {a : Nat} (ha : a < ds.length) (B : Bg) (hB : Bag B) : ∃ (d : D) (B' : Bg), bnT (bnE ds w a) B = some (.rt d, B') ∧ Thn d ∧ Bag B' := by
  have am : ∀ {lo hi}, ∀ d ∈ cutL ds lo hi, Atm d := fun d hd => (h1 d (cutLm hd)).atm
  have ll := fun lo hi => cutLl ds lo hi
  have l1 := ll none (some (a : Int))
  have l2 := ll (some ((a : Int) + 1)) none
  have l3 := ll (some (a : Int)) none
  have l4 := ll (some (a : Int)) (some ((a : Int) + 1))
  have joinA : ∀ {xs ys : List D}, (∀ d ∈ xs, Atm d) → (∀ d ∈ ys, Atm d) → ∀ d ∈ xs ++ ys, Atm d := fun p q d hd => (List.mem_append.mp hd).elim (p d) (q d)
  have c := fun j => bnW (ds := ds) (w := w) (a := a) j B
  by_cases w0 : w = 0
  · have c0 := c 0
    rw [decide_eq_true w0] at c0
    exact ⟨.lst ds, B, seq_rt (if_t c0 (ret_run (x1_run rfl rfl))), .lst ds fun d hd => (h1 d hd).atm.itm, hB⟩
  have c0 := c 0
  rw [decide_eq_false w0] at c0
  by_cases w1 : w = 1
  · have c1 := c 1
    rw [decide_eq_true w1] at c1
    exact ⟨_, B, seq_nx (if_f c0 rfl) (seq_rt (if_t c1 (ret_run (x2_run (bnA B) (bnB B) (gAdd_tup (by omega)))))), thn_at (joinA am am) (by rw [List.length_append]; omega), hB⟩
  have c1 := c 1
  rw [decide_eq_false w1] at c1
  by_cases w2 : w = 2
  · have c2 := c 2
    rw [decide_eq_true w2] at c2
    obtain ⟨o, B1, e, ho, hB1⟩ := odd_ok B hB
    exact ⟨_, B1, seq_nx (if_f c0 rfl) (seq_nx (if_f c1 rfl) (seq_rt (if_t c2 (ret_run (x2_run (x2_run (bnA B) (tup_run (cons_run (call_run (cons_run rfl rfl) e) rfl)) (gAdd_tup (by rw [List.length_singleton]; omega))) (bnD B1) (gAdd_tup (by rw [List.length_append, List.length_singleton]; omega))))))), thn_in am am ho (by omega) (by omega), hB1⟩
  have c2 := c 2
  rw [decide_eq_false w2] at c2
  by_cases w3 : w = 3
  · have c3 := c 3
    rw [decide_eq_true w3] at c3
    exact ⟨.tup ds.reverse, B, seq_nx (if_f c0 rfl) (seq_nx (if_f c1 rfl) (seq_nx (if_f c2 rfl) (seq_rt (if_t c3 (ret_run (x1_run rfl rfl)))))), thn_at (fun d hd => (h1 d (List.mem_reverse.mp hd)).atm) (by rw [List.length_reverse]; omega), hB⟩
  have c3 := c 3
  rw [decide_eq_false w3] at c3
  by_cases w4 : w = 4
  · have c4 := c 4
    rw [decide_eq_true w4] at c4
    exact ⟨_, B, seq_nx (if_f c0 rfl) (seq_nx (if_f c1 rfl) (seq_nx (if_f c2 rfl) (seq_nx (if_f c3 rfl) (seq_rt (if_t c4 (ret_run (x2_run (x2_run (bnA B) (bnG B) (gAdd_tup (by omega))) (bnD B) (gAdd_tup (by rw [List.length_append]; omega))))))))), thn_at (joinA (joinA am am) am) (by rw [List.length_append, List.length_append]; omega), hB⟩
  have c4 := c 4
  rw [decide_eq_false w4] at c4
  obtain ⟨o, B1, e, ho, hB1⟩ := bent_0_ok (h1 _ (List.getElem_mem ha)) (.int 0) B hB
  have ix : x2 gIx (xV 1) (xV 4) (bnE ds w a) B = some (ds[a], B) := x2_run rfl rfl (ix_tup (List.getElem?_eq_getElem ha))
  exact ⟨_, B1, seq_nx (if_f c0 rfl) (seq_nx (if_f c1 rfl) (seq_nx (if_f c2 rfl) (seq_nx (if_f c3 rfl) (seq_nx (if_f c4 rfl) (ret_run (x2_run (x2_run (bnA B) (tup_run (cons_run (call_run (cons_run rfl (cons_run ix (cons_run rfl rfl))) e) rfl)) (gAdd_tup (by rw [List.length_singleton]; omega))) (bnB B1) (gAdd_tup (by rw [List.length_append, List.length_singleton]; omega)))))))), thn_in am am ho (by omega) (by omega), hB1⟩
theorem bent_1_ok {x : D} (h : Bth x) (B : Bg) (hB : Bag B) : ∃ (d : D) (B' : Bg), m_law_bent_1 [.bag, x, .int 1] B = some (d, B') ∧ Thn d ∧ Bag B' := by
  cases h with
  | lst =>
    obtain ⟨d, B', e, hd, hB'⟩ := bnC3_odd (x := .lst [.str "up", .int 0]) (k := some (.int 1)) (r3 := none) (r4 := none) rfl rfl B hB
    refine ⟨d, B', fn_run rfl ?_, .itm d hd, hB'⟩
    rw [bent_1_form]
    exact seq_nx (bnC1_no (x := .lst [.str "up", .int 0]) rfl rfl B) (seq_nx (bnC2_no (x := .lst [.str "up", .int 0]) rfl rfl B) (seq_rt e))
  | tup ds h1 h2 h3 =>
    have i3 : x1 (gInst "tuple") (xV 1) [some .bag, some (.tup ds), some (.int 1), none, none] B = some (.bl true, B) := x1_run rfl (gi_tup (x := .tup ds) rfl)
    have c3 : bnC3 [some .bag, some (.tup ds), some (.int 1), none, none] B = some (.nx [some .bag, some (.tup ds), some (.int 1), none, none], B) := if_f (or_f (not_run i3) (or_f (x2_run rfl rfl (tup_ne_tn h1 h2)) (x2_run rfl rfl (enc_int.eq (by decide) 1 0)))) rfl
    obtain ⟨w, B1, e1, hw, hB1⟩ := take_n B hB 14 (by decide) (by decide)
    obtain ⟨a, B2, e2, ha, hB2⟩ := take_n B1 hB1 ds.length (by omega) (by omega)
    have ln : gLen (.tup ds) = some (nN ds.length) := rfl
    have p4 : bnP [some .bag, some (.tup ds), some (.int 1), none, none] B = some (.nx (bnE ds w a), B2) := par_run (cons_run (call_run (cons_run rfl (cons_run rfl rfl)) e1) (cons_run (call_run (cons_run rfl (cons_run (x1_run rfl ln) rfl)) e2) rfl))
    obtain ⟨d, B', e, hd, hB'⟩ := bnT_ok h1 h3 w ha B2 hB2
    refine ⟨d, B', fn_run rfl ?_, hd, hB'⟩
    rw [bent_1_form]
    exact seq_nx (bnC1_no (x := .tup ds) rfl rfl B) (seq_nx (bnC2_no (x := .tup ds) rfl rfl B) (seq_nx c3 (seq_nx p4 e)))
def L03_1b1 : Sx := (sSet 3 (xCall m_law_table (xCons (xV 1) (xCons (xC (.int 5)) xNil))))
def L03_1b2 : Sx := (sPar [4, 5, 6, 7] (xCons (x1 gReprK (xV 3)) (xCons (xCall m_law_edges (xCons (xV 3) xNil)) (xCons (xCall m_law_corners (xCons (xV 3) xNil)) (xCons (xCall m_law_labels (xCons (xV 3) xNil)) xNil)))))
def L03_1b3 : Sx := (sPar [8, 9] (xCons (x2 gIx (xV 3) (xC (.int 0))) (xCons (x2 gIx (xV 3) (xC (.int 1))) xNil)))
def L03_1b4 : Sx := (sSet 10 (x2 gAdd (x2 gAdd (xSl gSl (xCall m_law_mixed (xCons (xV 1) (xCons (xV 5) xNil))) xPn (xPs (xC (.int 3)))) (xSl gSl (xCall m_law_mixed (xCons (xV 1) (xCons (xV 6) xNil))) xPn (xPs (xC (.int 3))))) (xSl gSl (xCall m_law_mixed (xCons (xV 1) (xCons (xV 7) xNil))) xPn (xPs (xC (.int 3))))))
def L03_1b5 : Sx := (sSet 10 (x2 gAdd (xV 10) (xLC [14] (tN 14) (xIt (xTup (xCons (xC (.str "left")) (xCons (xC (.str "down")) (xCons (xC (.str "right")) (xCons (xC (.str "up")) (xCons (xC (.str "Up")) xNil))))))) xYes (xTup (xCons (xV 14) (xCons (xCall m_law_take (xCons (xV 1) (xCons (x2 gAdd (xV 8) (xC (.int 1))) xNil))) xNil))))))
def L03_1b6 : Sx := (sSet 10 (x2 gAdd (xV 10) (xLst (xCons (xTup (xCons (xV 8) (xCons (xC (.int 0)) (xCons (xC (.int 0)) xNil)))) (xCons (xTup (xCons (xC (.int 0)) (xCons (xC (.int 2)) (xCons (xC (.int 0)) xNil)))) (xCons (xTup (xCons (xC (.int 0)) (xCons (xC (.int 0)) (xCons (xC (.int 0)) (xCons (xV 9) xNil))))) (xCons (xTup (xCons (xC (.int 0)) (xCons (xC (.bl true)) (xCons (xC (.int 0)) (xCons (xC (.int 0)) xNil))))) (xCons (xTup (xCons (xC (.bl false)) (xCons (xC (.int 0)) (xCons (xC (.int 0)) xNil)))) (xCons (xTup (xCons (xC (.int 0)) (xCons (xC (.int 1)) (xCons (x1 gNeg (xC (.int 1))) xNil)))) (xCons (xLst (xCons (xC (.str "up")) (xCons (xC (.int 0)) xNil))) (xCons (xTup (xCons (xC (.str "up")) (xCons (xC (.bl true)) xNil))) xNil)))))))))))
def L03_1b7b1 : Sx := (sSet 12 (xLst (xCons (xCall m_law_is_one_of (xCons (xV 11) (xCons (xV 5) xNil))) (xCons (xCall m_law_is_one_of (xCons (xV 11) (xCons (xV 6) xNil))) (xCons (xCall m_law_is_one_of (xCons (xV 11) (xCons (xV 7) xNil))) xNil)))))
def L03_1b7b2 : Sx := (sIf (xNot (xCall m_law_alike (xCons (xLst (xCons (xCall m_is_edge (xCons (xV 3) (xCons (xV 11) xNil))) (xCons (xCall m_is_corner (xCons (xV 3) (xCons (xV 11) xNil))) (xCons (xCall m_is_label (xCons (xV 3) (xCons (xV 11) xNil))) xNil)))) (xCons (xV 12) xNil)))) (sRet (xC (.bl false))) sNil)
def L03_1b7b : Sx := (sSeq L03_1b7b1 L03_1b7b2)
def L03_1b7 : Sx := sFor (tN 11) (xIt (x2 gAdd (x2 gAdd (xV 10) (xLst (xCons (xCall m_law_odd (xCons (xV 1) xNil)) xNil))) (xLC [15] (tN 15) (xRng1 (xC (.int 6))) xYes (xCall m_law_bent (xCons (xV 1) (xCons (xCall m_law_some (xCons (xV 1) (xCons (xV 10) xNil))) (xCons (xC (.int 1)) xNil))))))) L03_1b7b
def L03_1b8b : Sx := (sIf (xNot (xCall m_law_alike (xCons (xCall m_corners_at (xCons (x2 gIx (xV 3) (xC (.int 2))) (xCons (x2 gIx (xV 3) (xC (.int 3))) (xCons (xV 13) xNil)))) (xCons (xCall m_law_point_of (xCons (xV 3) (xCons (xV 13) xNil))) xNil)))) (sRet (xC (.bl false))) sNil)
def L03_1b8 : Sx := sFor (tN 13) (xIt (xSl gSl (xCall m_law_mixed (xCons (xV 1) (xCons (xV 6) xNil))) xPn (xPs (xC (.int 8))))) L03_1b8b
def L03_1b9 : Sx := (sIf (x2 gNe (x1 gReprK (xV 3)) (xV 4)) (sRet (xC (.bl false))) sNil)
def L03_1b : Sx := (sSeq L03_1b1 (sSeq L03_1b2 (sSeq L03_1b3 (sSeq L03_1b4 (sSeq L03_1b5 (sSeq L03_1b6 (sSeq L03_1b7 (sSeq L03_1b8 L03_1b9))))))))
def L03_1 : Sx := sFor (tN 2) (xRng1 (xC (.int 3))) L03_1b
def L03_2 : Sx := (sRet (xC (.bl true)))
def L03 : Sx := (sSeq L03_1 L03_2)
theorem L03_form : b_law = L03 := rfl
section
variable {t : Tb}
abbrev E03 (i : Nat) (r3 r4 r5 r6 r7 r8 r9 r10 r11 r12 r13 : Option D) : Env := [none, some .bag, some (nN i), r3, r4, r5, r6, r7, r8, r9, r10, r11, r12, r13, none, none]
theorem bat_n {n : Nat} (h : n ≤ 9) : Bat (nN n) := .int (n : Int) (by omega) (by omega)
theorem bat_s (s : Sd) : Bat (sdD s) := .str _ (by cases s <;> decide +kernel)
theorem bth_ed {e : Ed} (h : e.2 ≤ 9) : Bth (edD e) := .tup _ (lmC (bat_s e.1) (lmC (bat_n h) lm0)) (by simp) (by simp)
theorem bth_cn {c : Cn} (h : Vc 5 c) : Bth (cnD c) := .tup _ (lmC (bat_n (by have := h.1; omega)) (lmC (bat_n (by have := h.2.1; omega)) (lmC (bat_n (by have := h.2.2; omega)) lm0))) (by simp) (by simp)
theorem vl9 (w : Wt 5 t) {l : Lb} (h : Vl t l) : l.1 ≤ 9 ∧ l.2.1 ≤ 9 ∧ l.2.2.1 ≤ 9 ∧ l.2.2.2 ≤ 9 := by
  have n1 := w.n1
  have m1 := w.m1
  obtain ⟨a, b, c, d⟩ := h
  exact ⟨by omega, by omega, by omega, by omega⟩
theorem bth_lb (w : Wt 5 t) {l : Lb} (h : Vl t l) : Bth (lbD l) := .tup _ (lmC (bat_n (vl9 w h).1) (lmC (bat_n (vl9 w h).2.1) (lmC (bat_n (vl9 w h).2.2.1) (lmC (bat_n (vl9 w h).2.2.2) lm0)))) (by simp) (by simp)
theorem nice_bl (b : Bool) : Nice 0 5 (.bl b) := by
  cases b
  · exact ⟨rfl, rfl, rfl, Nat.le_refl _, by decide⟩
  · exact ⟨rfl, rfl, rfl, Nat.le_refl _, by decide⟩
theorem cutTo {α : Type} (xs : List α) {k : Nat} (h : k ≤ xs.length) : cutL xs none (some (k : Int)) = xs.take k := by
  unfold cutL
  rw [HT.sIx_nat, HT.sIx_none, Nat.min_eq_left h, Nat.sub_zero, List.drop_zero]
theorem cut3 {α : Type} (xs : List α) : (cutL xs none (some 3)).length ≤ 3 := by
  have q : cutL xs none (some 3) = xs.take 3 ∨ xs.length ≤ 3 := by
    by_cases h : xs.length ≤ 3
    · exact .inr h
    · exact .inl (cutTo (k := 3) xs (by omega))
  rcases q with q | q
  · rw [q, List.length_take]
    omega
  · exact Nat.le_trans (cutLl xs none (some 3)) q
theorem tg_ed {n : Nat} (hn : n ≤ 100) {rs us : List (Option Nat)} : ∀ e ∈ edgesOf n rs us, Tgts (fun e : Ed => [sdD e.1, nN e.2]) e := fun e he => ⟨lmC (atm_s _) (lmC (atm_n (by have := (edgesOf_mem.mp he).1; omega)) lm0), lmC (.s _) (lmC (.n _) lm0), by simp, by simp⟩
theorem tg_cn {n : Nat} (hn : n ≤ 100) : ∀ c ∈ cornersOf n, Tgts (fun c : Cn => [nN c.1, nN c.2.1, nN c.2.2]) c := fun c hc => by
  obtain ⟨a, b, d⟩ := corners_mem.mp hc
  exact ⟨lmC (atm_n (by omega)) (lmC (atm_n (by omega)) (lmC (atm_n (by omega)) lm0)), lmC (.n _) (lmC (.n _) (lmC (.n _) lm0)), by simp, by simp⟩
theorem tg_lb (w : Wt 5 t) : ∀ l ∈ labelsOf t, Tgts (fun l : Lb => [nN l.1, nN l.2.1, nN l.2.2.1, nN l.2.2.2]) l := fun l hl => by
  obtain ⟨a, b, c, d⟩ := vl9 w (labels_mem.mp hl)
  exact ⟨lmC (atm_n (by omega)) (lmC (atm_n (by omega)) (lmC (atm_n (by omega)) (lmC (atm_n (by omega)) lm0))), lmC (.n _) (lmC (.n _) (lmC (.n _) (lmC (.n _) lm0))), by simp, by simp⟩
theorem bl_eq {a b : Bool} {P : Prop} (h : a = true ↔ P) (g : b = true ↔ P) : a = b := by
  rw [Bool.eq_iff_iff]
  exact h.trans g.symm
theorem thing_turn (w : Wt 5 t) (i : Nat) {x : D} (hx : Thn x) (s4 s8 s9 s10 s12 s13 : Option D) (B : Bg) : ∃ u12, L03_1b7b (E03 i (some (tbD t)) s4 (some (.lst ((edgesOf t.n t.rs t.us).map edD))) (some (.lst ((cornersOf t.n).map cnD))) (some (.lst ((labelsOf t).map lbD))) s8 s9 s10 (some x) s12 s13) B = some (.nx (E03 i (some (tbD t)) s4 (some (.lst ((edgesOf t.n t.rs t.us).map edD))) (some (.lst ((cornersOf t.n).map cnD))) (some (.lst ((labelsOf t).map lbD))) s8 s9 s10 (some x) u12 s13), B) := by
  have n1 := w.n1
  have m1 := w.m1
  obtain ⟨hg, hs⟩ := hx.thg
  have le := edgesOf_len t.n t.rs t.us
  have lc := corners_len t.n
  have ll := labels_len t
  have q : t.m * (4 * t.n) ≤ 4 * (4 * 5) := Nat.mul_le_mul m1 (by omega)
  obtain ⟨b1, e1, i1⟩ := one_of_ok (B := B) (g := fun e : Ed => [sdD e.1, nN e.2]) (edgesOf t.n t.rs t.us) (tg_ed (by omega)) (by omega) hx
  obtain ⟨b2, e2, i2⟩ := one_of_ok (B := B) (g := fun c : Cn => [nN c.1, nN c.2.1, nN c.2.2]) (cornersOf t.n) (tg_cn (by omega)) (by omega) hx
  obtain ⟨b3, e3, i3⟩ := one_of_ok (B := B) (g := fun l : Lb => [nN l.1, nN l.2.1, nN l.2.2.1, nN l.2.2.2]) (labelsOf t) (tg_lb w) (by omega) hx
  obtain ⟨c1, f1, j1⟩ := is_edge_ok (B := B) w hg hs
  have f2 := is_corner_ok (t := t) (B := B) hg
  have f3 := is_label_ok (t := t) (B := B) hg
  have k1 : c1 = b1 := bl_eq j1 i1
  have k2 : crnB t.n x = b2 := bl_eq crnB_iff i2
  have k3 : laB t.n t.m x = b3 := bl_eq laB_iff i3
  rw [k1] at f1
  rw [k2] at f2
  rw [k3] at f3
  have nl : Nice 1 24 (.lst [.bl b1, .bl b2, .bl b3]) := nice_lst (k := 0) (n := 5) (m := 3) (lmC (nice_bl _) (lmC (nice_bl _) (lmC (nice_bl _) lm0))) (by simp)
  have al := alikeL B nl (by decide) (by decide)
  exact ⟨some (.lst [.bl b1, .bl b2, .bl b3]), seq_nx (set_run (lst_run (cons_run (call_run (cons_run rfl (cons_run rfl rfl)) e1) (cons_run (call_run (cons_run rfl (cons_run rfl rfl)) e2) (cons_run (call_run (cons_run rfl (cons_run rfl rfl)) e3) rfl))))) (if_f (not_run (call_run (cons_run (lst_run (cons_run (call_run (cons_run rfl (cons_run rfl rfl)) f1) (cons_run (call_run (cons_run rfl (cons_run rfl rfl)) f2) (cons_run (call_run (cons_run rfl (cons_run rfl rfl)) f3) rfl)))) (cons_run rfl rfl)) al)) rfl)⟩
theorem things_go (w : Wt 5 t) (i : Nat) (s4 s8 s9 s10 s13 : Option D) (B : Bg) : ∀ (xs : List D), (∀ x ∈ xs, Thn x) → ∀ (s11 s12 : Option D), ∃ u11 u12, forGo (tN 11) L03_1b7b xs (E03 i (some (tbD t)) s4 (some (.lst ((edgesOf t.n t.rs t.us).map edD))) (some (.lst ((cornersOf t.n).map cnD))) (some (.lst ((labelsOf t).map lbD))) s8 s9 s10 s11 s12 s13) B = some (.nx (E03 i (some (tbD t)) s4 (some (.lst ((edgesOf t.n t.rs t.us).map edD))) (some (.lst ((cornersOf t.n).map cnD))) (some (.lst ((labelsOf t).map lbD))) s8 s9 s10 u11 u12 s13), B)
  | [], _, s11, s12 => ⟨s11, s12, rfl⟩
  | x :: xs, h, s11, s12 => by
    obtain ⟨u12, e⟩ := thing_turn w i (h x List.mem_cons_self) s4 s8 s9 s10 s12 s13 B
    obtain ⟨v11, v12, e2⟩ := things_go w i s4 s8 s9 s10 s13 B xs (fun y hy => h y (List.mem_cons_of_mem _ hy)) (some x) u12
    exact ⟨v11, v12, forGo_nx rfl e e2⟩
theorem corner_turn (w : Wt 5 t) (i : Nat) {c : Cn} (hc : Vc t.n c) (s4 s5 s6 s7 s8 s9 s10 s11 s12 : Option D) (B : Bg) : L03_1b8b (E03 i (some (tbD t)) s4 s5 s6 s7 s8 s9 s10 s11 s12 (some (cnD c))) B = some (.nx (E03 i (some (tbD t)) s4 s5 s6 s7 s8 s9 s10 s11 s12 (some (cnD c))), B) := by
  have n1 := w.n1
  have e1 := corners_at_ok w.r w.u (by omega) hc B
  have e2 := point_ok t w.r w.u (by omega) c hc B
  have len : (ptOf t c).length ≤ 20 := by
    obtain ⟨w1, w2, _⟩ := pt_wk w.r w.u (by omega) hc
    have := nodup_le w1 fun x hx => corners_mem.mpr (w2 x hx)
    rw [corners_len] at this
    omega
  have nl : Nice 2 403 (.tn ((ptOf t c).map cnD)) := nice_tn (k := 1) (n := 18) (m := 20) (fun d hd => by
    obtain ⟨x, hx, rfl⟩ := List.mem_map.mp hd
    obtain ⟨v1, v2, v3⟩ := (pt_wk w.r w.u (by omega) hc).2.1 x hx
    exact nice_cn ⟨by omega, by omega, by omega⟩) (by rw [List.length_map]; exact len)
  have al := alikeN B nl (by decide) (by decide)
  exact if_f (not_run (call_run (cons_run (call_run (cons_run (x2_run rfl rfl (tb_2 t)) (cons_run (x2_run rfl rfl (tb_3 t)) (cons_run rfl rfl))) e1) (cons_run (call_run (cons_run rfl (cons_run rfl rfl)) e2) rfl)) al)) rfl
theorem corners_go (w : Wt 5 t) (i : Nat) (s4 s5 s6 s7 s8 s9 s10 s11 s12 : Option D) (B : Bg) : ∀ (cs : List Cn), (∀ c ∈ cs, Vc t.n c) → ∀ (s13 : Option D), ∃ u13, forGo (tN 13) L03_1b8b (cs.map cnD) (E03 i (some (tbD t)) s4 s5 s6 s7 s8 s9 s10 s11 s12 s13) B = some (.nx (E03 i (some (tbD t)) s4 s5 s6 s7 s8 s9 s10 s11 s12 u13), B)
  | [], _, s13 => ⟨s13, rfl⟩
  | c :: cs, h, s13 => by
    have e := corner_turn w i (h c List.mem_cons_self) s4 s5 s6 s7 s8 s9 s10 s11 s12 B
    obtain ⟨v13, e2⟩ := corners_go w i s4 s5 s6 s7 s8 s9 s10 s11 s12 B cs (fun y hy => h y (List.mem_cons_of_mem _ hy)) (some (cnD c))
    exact ⟨v13, forGo_nx rfl e e2⟩
theorem al2 {P : D → Prop} {ds ys : List D} (h : All2 (fun _ y => P y) ds ys) : (∀ y ∈ ys, P y) ∧ ys.length = ds.length := by
  induction h with
  | nil => exact ⟨fun y hy => (nomatch hy), rfl⟩
  | cons p _ ih =>
    refine ⟨fun y hy => ?_, by rw [List.length_cons, List.length_cons, ih.2]⟩
    rcases List.mem_cons.mp hy with rfl | hy
    · exact p
    · exact ih.1 y hy
def w5 : List D := [.str "left", .str "down", .str "right", .str "up", .str "Up"]
theorem w5_in : ∀ d ∈ w5, ∃ w : Str, d = .str w ∧ w ∈ (["left", "down", "right", "up", "Up"] : List Str) := fun d hd => by
  unfold w5 at hd
  simp only [List.mem_cons, List.not_mem_nil, or_false] at hd
  rcases hd with rfl | rfl | rfl | rfl | rfl <;> exact ⟨_, rfl, by simp⟩
theorem words_drawn (i n : Nat) (hn : n ≤ 5) (r3 r4 r5 r6 r7 r9 r10 r11 r12 r13 : Option D) (B : Bg) (hB : Bag B) : ∃ (ys : List D) (B' : Bg), xLC [14] (tN 14) (xIt (xTup (xCons (xC (.str "left")) (xCons (xC (.str "down")) (xCons (xC (.str "right")) (xCons (xC (.str "up")) (xCons (xC (.str "Up")) xNil))))))) xYes (xTup (xCons (xV 14) (xCons (xCall m_law_take (xCons (xV 1) (xCons (x2 gAdd (xV 8) (xC (.int 1))) xNil))) xNil))) (E03 i r3 r4 r5 r6 r7 (some (nN n)) r9 r10 r11 r12 r13) B = some (.lst ys, B') ∧ (∀ y ∈ ys, Bth y) ∧ ys.length = 5 ∧ Bag B' := by
  obtain ⟨ys, B', e, q, hB'⟩ := lcGo_map (T := tN 14) (fe := xTup (xCons (xV 14) (xCons (xCall m_law_take (xCons (xV 1) (xCons (x2 gAdd (xV 8) (xC (.int 1))) xNil))) xNil))) Bag (fun _ y => Bth y) (E03 i r3 r4 r5 r6 r7 (some (nN n)) r9 r10 r11 r12 r13) w5 B (fun d hd B hB => by
    obtain ⟨w, rfl, hw⟩ := w5_in d hd
    obtain ⟨v, B1, e1, hv, hB1⟩ := take_n B hB (n + 1) (by omega) (by omega)
    exact ⟨_, .tup [.str w, nN v], B1, rfl, tup_run (cons_run rfl (cons_run (call_run (cons_run rfl (cons_run (x2_run rfl rfl (za n 1)) rfl)) e1) rfl)), .tup _ (lmC (.str w hw) (lmC (bat_n (by omega)) lm0)) (by simp) (by simp), hB1⟩) hB
  have l5 := al2 q
  refine ⟨ys, B', lc_run (vs := [14]) (it_run (tup_run (cons_run rfl (cons_run rfl (cons_run rfl (cons_run rfl (cons_run rfl rfl)))))) rfl) e (by rw [l5.2]; exact len_small (by decide)), l5.1, l5.2, hB'⟩
def fx8 (n m : Nat) : List D := [.tup [nN n, .int 0, .int 0], .tup [.int 0, .int 2, .int 0], .tup [.int 0, .int 0, .int 0, nN m], .tup [.int 0, .bl true, .int 0, .int 0], .tup [.bl false, .int 0, .int 0], .tup [.int 0, .int 1, .int (-1)], .lst [.str "up", .int 0], .tup [.str "up", .bl true]]
theorem fx8_bth {n m : Nat} (hn : n ≤ 9) (hm : m ≤ 9) : ∀ d ∈ fx8 n m, Bth d := by
  have z : Bat (.int 0) := .int _ (by decide) (by decide)
  have o : Bat (.int 1) := .int _ (by decide) (by decide)
  have t : Bat (.int 2) := .int _ (by decide) (by decide)
  have mo : Bat (.int (-1)) := .int _ (by decide) (by decide)
  have up : Bat (.str "up") := .str _ (by simp)
  exact lmC (.tup _ (lmC (bat_n hn) (lmC z (lmC z lm0))) (by simp) (by simp)) (lmC (.tup _ (lmC z (lmC t (lmC z lm0))) (by simp) (by simp)) (lmC (.tup _ (lmC z (lmC z (lmC z (lmC (bat_n hm) lm0)))) (by simp) (by simp)) (lmC (.tup _ (lmC z (lmC (.bl _) (lmC z (lmC z lm0)))) (by simp) (by simp)) (lmC (.tup _ (lmC (.bl _) (lmC z (lmC z lm0))) (by simp) (by simp)) (lmC (.tup _ (lmC z (lmC o (lmC mo lm0))) (by simp) (by simp)) (lmC .lst (lmC (.tup _ (lmC up (lmC (.bl _) lm0)) (by simp) (by simp)) lm0)))))))
theorem things_ok (i : Nat) {xs : List D} (hx : ∀ d ∈ xs, Bth d) (ne : xs ≠ []) (hl : xs.length ≤ 100) (r3 r4 r5 r6 r7 r8 r9 r11 r12 r13 : Option D) (B : Bg) (hB : Bag B) : ∃ (ys : List D) (B' : Bg), xIt (x2 gAdd (x2 gAdd (xV 10) (xLst (xCons (xCall m_law_odd (xCons (xV 1) xNil)) xNil))) (xLC [15] (tN 15) (xRng1 (xC (.int 6))) xYes (xCall m_law_bent (xCons (xV 1) (xCons (xCall m_law_some (xCons (xV 1) (xCons (xV 10) xNil))) (xCons (xC (.int 1)) xNil)))))) (E03 i r3 r4 r5 r6 r7 r8 r9 (some (.lst xs)) r11 r12 r13) B = some (ys, B') ∧ (∀ y ∈ ys, Thn y) ∧ Bag B' := by
  obtain ⟨o, B1, e1, ho, hB1⟩ := odd_ok B hB
  obtain ⟨ys, B', e, q, hB'⟩ := lcGo_map (T := tN 15) (fe := (xCall m_law_bent (xCons (xV 1) (xCons (xCall m_law_some (xCons (xV 1) (xCons (xV 10) xNil))) (xCons (xC (.int 1)) xNil))))) Bag (fun _ y => Thn y) (E03 i r3 r4 r5 r6 r7 r8 r9 (some (.lst xs)) r11 r12 r13) ((List.range 6).map nN) B1 (fun d hd B hB => by
    obtain ⟨k, hk, rfl⟩ := List.mem_map.mp hd
    obtain ⟨j, x, B2, e2, hj, hB2⟩ := some_lst B hB xs ne (by omega)
    obtain ⟨y, B3, e3, hy, hB3⟩ := bent_1_ok (hx x (List.mem_of_getElem? hj)) B2 hB2
    exact ⟨_, y, B3, rfl, call_run (cons_run rfl (cons_run (call_run (cons_run rfl (cons_run rfl rfl)) e2) (cons_run rfl rfl))) e3, hy, hB3⟩) hB1
  have l6 := al2 q
  rw [List.length_map, List.length_range] at l6
  have lr := lc_run (vs := [15]) (rgT (n := 6) (f := xC (.int 6)) (ρ := E03 i r3 r4 r5 r6 r7 r8 r9 (some (.lst xs)) r11 r12 r13) (B := B1) (B1 := B1) (by decide) rfl) e (by rw [l6.2]; exact len_small (by decide))
  refine ⟨(xs ++ [o]) ++ ys, B', it_run (x2_run (x2_run rfl (lst_run (cons_run (call_run (cons_run rfl rfl) e1) rfl)) (gAdd_lst (by rw [List.length_singleton]; omega))) lr (gAdd_lst (by rw [List.length_append, List.length_singleton, l6.2]; omega))) rfl, fun y hy => ?_, hB'⟩
  rcases List.mem_append.mp hy with hy | hy
  · rcases List.mem_append.mp hy with hy | hy
    · exact (hx y hy).thn
    · rw [List.mem_singleton.mp hy]
      exact .itm o ho
  · exact l6.1 y hy
theorem k03_turn (i : Nat) (r3 r4 r5 r6 r7 r8 r9 r10 r11 r12 r13 : Option D) (B : Bg) (hB : Bag B) : ∃ s3 s4 s5 s6 s7 s8 s9 s10 s11 s12 s13 B', Bag B' ∧ L03_1b (E03 i r3 r4 r5 r6 r7 r8 r9 r10 r11 r12 r13) B = some (.nx (E03 i s3 s4 s5 s6 s7 s8 s9 s10 s11 s12 s13), B') := by
  obtain ⟨t, B1, e1, w, hB1⟩ := table_ok 5 (by decide) (by decide) B hB
  have n1 := w.n1
  have m1 := w.m1
  have tl := gReprK_of (told_tb (N := 5) (by decide) w)
  have le : m_law_edges [tbD t] B1 = some (.lst ((edgesOf t.n t.rs t.us).map edD), B1) := fn_run rfl (ret_run (call_run (cons_run (x2_run rfl rfl (tb_2 t)) (cons_run (x2_run rfl rfl (tb_3 t)) rfl)) (edges_ok t.n (by omega) t.rs t.us w.r.len B1)))
  have lc := corners_ok t (by omega) B1
  have ll := law_labels_ok t (by omega) (by omega) B1
  have q : t.m * (4 * t.n) ≤ 4 * (4 * 5) := Nat.mul_le_mul m1 (by omega)
  have h1 := edgesOf_len t.n t.rs t.us
  have h2 := corners_len t.n
  have h3 := labels_len t
  obtain ⟨me, B2, e2, p2, hB2⟩ := mixed_a edD B1 hB1 (edgesOf t.n t.rs t.us) (by omega)
  obtain ⟨mc, B3, e3, p3, hB3⟩ := mixed_a cnD B2 hB2 (cornersOf t.n) (by omega)
  obtain ⟨ml, B4, e4, p4, hB4⟩ := mixed_a lbD B3 hB3 (labelsOf t) (by omega)
  have sl : ∀ {α : Type} (g : α → D) (xs : List α), gSl (.lst (xs.map g)) none (some 3) = some (.lst ((cutL xs none (some 3)).map g)) := fun g xs => by
    show some (D.lst (cutL (xs.map g) none (some 3))) = _
    rw [cut_map]
  have ce := cut3 me
  have cc := cut3 mc
  have cl := cut3 ml
  have g1 : gAdd (.lst ((cutL me none (some 3)).map edD)) (.lst ((cutL mc none (some 3)).map cnD)) = some (.lst ((cutL me none (some 3)).map edD ++ (cutL mc none (some 3)).map cnD)) := gAdd_lst (by rw [List.length_map, List.length_map]; omega)
  have g2 : gAdd (.lst ((cutL me none (some 3)).map edD ++ (cutL mc none (some 3)).map cnD)) (.lst ((cutL ml none (some 3)).map lbD)) = some (.lst (((cutL me none (some 3)).map edD ++ (cutL mc none (some 3)).map cnD) ++ (cutL ml none (some 3)).map lbD)) := gAdd_lst (by rw [List.length_append, List.length_map, List.length_map, List.length_map]; omega)
  obtain ⟨ws, B5, e5, hw, lw, hB5⟩ := words_drawn i t.n (by omega) (some (tbD t)) (some (.str (tbD t).py.shown)) (some (.lst ((edgesOf t.n t.rs t.us).map edD))) (some (.lst ((cornersOf t.n).map cnD))) (some (.lst ((labelsOf t).map lbD))) (some (nN t.m)) (some (.lst (((cutL me none (some 3)).map edD ++ (cutL mc none (some 3)).map cnD) ++ (cutL ml none (some 3)).map lbD))) r11 r12 r13 B4 hB4
  generalize hX : ((cutL me none (some 3)).map edD ++ (cutL mc none (some 3)).map cnD) ++ (cutL ml none (some 3)).map lbD = X at *
  have lX : X.length ≤ 9 := by
    rw [← hX, List.length_append, List.length_append, List.length_map, List.length_map, List.length_map]
    omega
  have bX : ∀ d ∈ X, Bth d := fun d hd => by
    rw [← hX] at hd
    rcases List.mem_append.mp hd with hd | hd
    · rcases List.mem_append.mp hd with hd | hd
      · obtain ⟨x, hx, rfl⟩ := List.mem_map.mp hd
        have := (edgesOf_mem.mp (p2.mem_iff.mp (cutLm hx))).1
        exact bth_ed (by omega)
      · obtain ⟨x, hx, rfl⟩ := List.mem_map.mp hd
        obtain ⟨a, b, c⟩ := corners_mem.mp (p3.mem_iff.mp (cutLm hx))
        exact bth_cn ⟨by omega, b, c⟩
    · obtain ⟨x, hx, rfl⟩ := List.mem_map.mp hd
      exact bth_lb w (labels_mem.mp (p4.mem_iff.mp (cutLm hx)))
  have bA : ∀ d ∈ (X ++ ws) ++ fx8 t.n t.m, Bth d := fun d hd => by
    rcases List.mem_append.mp hd with hd | hd
    · rcases List.mem_append.mp hd with hd | hd
      · exact bX d hd
      · exact hw d hd
    · exact fx8_bth (by omega) (by omega) d hd
  have l8 : (fx8 t.n t.m).length = 8 := rfl
  obtain ⟨ys, B6, e6, hy, hB6⟩ := things_ok i bA (fun z => by
    have := congrArg List.length z
    rw [List.length_append, l8] at this
    simp at this) (by rw [List.length_append, List.length_append, l8, lw]; omega) (some (tbD t)) (some (.str (tbD t).py.shown)) (some (.lst ((edgesOf t.n t.rs t.us).map edD))) (some (.lst ((cornersOf t.n).map cnD))) (some (.lst ((labelsOf t).map lbD))) (some (nN t.n)) (some (nN t.m)) r11 r12 r13 B5 hB5
  obtain ⟨u11, u12, e7⟩ := things_go w i (some (.str (tbD t).py.shown)) (some (nN t.n)) (some (nN t.m)) (some (.lst ((X ++ ws) ++ fx8 t.n t.m))) r13 B6 ys hy r11 r12
  obtain ⟨nc, B7, e8, p8, hB7⟩ := mixed_a cnD B6 hB6 (cornersOf t.n) (by omega)
  obtain ⟨u13, e9⟩ := corners_go w i (some (.str (tbD t).py.shown)) (some (.lst ((edgesOf t.n t.rs t.us).map edD))) (some (.lst ((cornersOf t.n).map cnD))) (some (.lst ((labelsOf t).map lbD))) (some (nN t.n)) (some (nN t.m)) (some (.lst ((X ++ ws) ++ fx8 t.n t.m))) u11 u12 B7 (cutL nc none (some 8)) (fun c hc => corners_mem.mp (p8.mem_iff.mp (cutLm hc))) r13
  have k1 : L03_1b1 (E03 i r3 r4 r5 r6 r7 r8 r9 r10 r11 r12 r13) B = some (.nx (E03 i (some (tbD t)) r4 r5 r6 r7 r8 r9 r10 r11 r12 r13), B1) := set_run (call_run (cons_run rfl (cons_run rfl rfl)) e1)
  have k2 : L03_1b2 (E03 i (some (tbD t)) r4 r5 r6 r7 r8 r9 r10 r11 r12 r13) B1 = some (.nx (E03 i (some (tbD t)) (some (.str (tbD t).py.shown)) (some (.lst ((edgesOf t.n t.rs t.us).map edD))) (some (.lst ((cornersOf t.n).map cnD))) (some (.lst ((labelsOf t).map lbD))) r8 r9 r10 r11 r12 r13), B1) := par_run (cons_run (x1_run rfl tl) (cons_run (call_run (cons_run rfl rfl) le) (cons_run (call_run (cons_run rfl rfl) lc) (cons_run (call_run (cons_run rfl rfl) ll) rfl))))
  have k3 : L03_1b3 (E03 i (some (tbD t)) (some (.str (tbD t).py.shown)) (some (.lst ((edgesOf t.n t.rs t.us).map edD))) (some (.lst ((cornersOf t.n).map cnD))) (some (.lst ((labelsOf t).map lbD))) r8 r9 r10 r11 r12 r13) B1 = some (.nx (E03 i (some (tbD t)) (some (.str (tbD t).py.shown)) (some (.lst ((edgesOf t.n t.rs t.us).map edD))) (some (.lst ((cornersOf t.n).map cnD))) (some (.lst ((labelsOf t).map lbD))) (some (nN t.n)) (some (nN t.m)) r10 r11 r12 r13), B1) := par_run (cons_run (x2_run rfl rfl rfl) (cons_run (x2_run rfl rfl rfl) rfl))
  have k4 : L03_1b4 (E03 i (some (tbD t)) (some (.str (tbD t).py.shown)) (some (.lst ((edgesOf t.n t.rs t.us).map edD))) (some (.lst ((cornersOf t.n).map cnD))) (some (.lst ((labelsOf t).map lbD))) (some (nN t.n)) (some (nN t.m)) r10 r11 r12 r13) B1 = some (.nx (E03 i (some (tbD t)) (some (.str (tbD t).py.shown)) (some (.lst ((edgesOf t.n t.rs t.us).map edD))) (some (.lst ((cornersOf t.n).map cnD))) (some (.lst ((labelsOf t).map lbD))) (some (nN t.n)) (some (nN t.m)) (some (.lst X)) r11 r12 r13), B4) := set_run (x2_run (x2_run (sl_to (k := 3) (call_run (cons_run rfl (cons_run rfl rfl)) e2) rfl (sl edD me)) (sl_to (k := 3) (call_run (cons_run rfl (cons_run rfl rfl)) e3) rfl (sl cnD mc)) g1) (sl_to (k := 3) (call_run (cons_run rfl (cons_run rfl rfl)) e4) rfl (sl lbD ml)) g2)
  have k5 : L03_1b5 (E03 i (some (tbD t)) (some (.str (tbD t).py.shown)) (some (.lst ((edgesOf t.n t.rs t.us).map edD))) (some (.lst ((cornersOf t.n).map cnD))) (some (.lst ((labelsOf t).map lbD))) (some (nN t.n)) (some (nN t.m)) (some (.lst X)) r11 r12 r13) B4 = some (.nx (E03 i (some (tbD t)) (some (.str (tbD t).py.shown)) (some (.lst ((edgesOf t.n t.rs t.us).map edD))) (some (.lst ((cornersOf t.n).map cnD))) (some (.lst ((labelsOf t).map lbD))) (some (nN t.n)) (some (nN t.m)) (some (.lst (X ++ ws))) r11 r12 r13), B5) := set_run (x2_run rfl e5 (gAdd_lst (by omega)))
  have k6 : L03_1b6 (E03 i (some (tbD t)) (some (.str (tbD t).py.shown)) (some (.lst ((edgesOf t.n t.rs t.us).map edD))) (some (.lst ((cornersOf t.n).map cnD))) (some (.lst ((labelsOf t).map lbD))) (some (nN t.n)) (some (nN t.m)) (some (.lst (X ++ ws))) r11 r12 r13) B5 = some (.nx (E03 i (some (tbD t)) (some (.str (tbD t).py.shown)) (some (.lst ((edgesOf t.n t.rs t.us).map edD))) (some (.lst ((cornersOf t.n).map cnD))) (some (.lst ((labelsOf t).map lbD))) (some (nN t.n)) (some (nN t.m)) (some (.lst ((X ++ ws) ++ fx8 t.n t.m))) r11 r12 r13), B5) := set_run (x2_run (y := .lst (fx8 t.n t.m)) rfl (lst_run rfl) (gAdd_lst (by rw [List.length_append, l8]; omega)))
  have k8 : xIt (xSl gSl (xCall m_law_mixed (xCons (xV 1) (xCons (xV 6) xNil))) xPn (xPs (xC (.int 8)))) (E03 i (some (tbD t)) (some (.str (tbD t).py.shown)) (some (.lst ((edgesOf t.n t.rs t.us).map edD))) (some (.lst ((cornersOf t.n).map cnD))) (some (.lst ((labelsOf t).map lbD))) (some (nN t.n)) (some (nN t.m)) (some (.lst ((X ++ ws) ++ fx8 t.n t.m))) u11 u12 r13) B6 = some ((cutL nc none (some 8)).map cnD, B7) := it_run (sl_to (k := 8) (call_run (cons_run rfl (cons_run rfl rfl)) e8) rfl (by
    show some (D.lst (cutL (nc.map cnD) none (some 8))) = some (.lst ((cutL nc none (some 8)).map cnD))
    rw [cut_map])) rfl
  exact ⟨_, _, _, _, _, _, _, _, _, _, _, B7, hB7, seq_nx k1 (seq_nx k2 (seq_nx k3 (seq_nx k4 (seq_nx k5 (seq_nx k6 (seq_nx (for_run e6 e7) (seq_nx (for_run k8 e9) (if_f (x2_run (x1_run rfl tl) rfl (ne_self _)) rfl))))))))⟩
theorem k03_go : ∀ (is : List Nat) (r2 r3 r4 r5 r6 r7 r8 r9 r10 r11 r12 r13 : Option D) (B : Bg), Bag B → ∃ ρ B', Bag B' ∧ forGo (tN 2) L03_1b (is.map nN) [none, some .bag, r2, r3, r4, r5, r6, r7, r8, r9, r10, r11, r12, r13, none, none] B = some (.nx ρ, B')
  | [], r2, r3, r4, r5, r6, r7, r8, r9, r10, r11, r12, r13, B, hB => ⟨_, B, hB, rfl⟩
  | i :: is, r2, r3, r4, r5, r6, r7, r8, r9, r10, r11, r12, r13, B, hB => by
    obtain ⟨s3, s4, s5, s6, s7, s8, s9, s10, s11, s12, s13, B1, hB1, e⟩ := k03_turn i r3 r4 r5 r6 r7 r8 r9 r10 r11 r12 r13 B hB
    obtain ⟨ρ, B2, hB2, e2⟩ := k03_go is (some (nN i)) s3 s4 s5 s6 s7 s8 s9 s10 s11 s12 s13 B1 hB1
    exact ⟨ρ, B2, hB2, forGo_nx rfl e e2⟩
end
theorem law_true (ns : List Int) (h : ns.length ≤ 63) : ∃ B, b_law (none :: some .bag :: List.replicate 14 none) (bag0 ns) = some (.rt (.bl true), B) := by
  obtain ⟨ρ, B1, hB1, e⟩ := k03_go (List.range 3) none none none none none none none none none none none none (bag0 ns) (bag0_ok ns)
  rw [L03_form]
  exact ⟨B1, seq_nx (for_run (rgT (n := 3) (by decide) rfl) e) (ret_run rfl)⟩
end DL
namespace DL
open PySem PySem.Spec PyProof.Rows L2
/-- what the top has written -/
structure TX (K : PySem.W.Frag) (mg : Str → Option Value) where
  f_is_integer : Addr
  fd_is_integer : FuncData
  F_is_integer : Fun K "is_integer" "is_integer" s_is_integer f_is_integer fd_is_integer
  b_is_integer : Binds K fd_is_integer ["thing"] []
  g_is_integer : mg "is_integer" = some (.ref f_is_integer)
  f_is_below : Addr
  fd_is_below : FuncData
  F_is_below : Fun K "is_below" "is_below" s_is_below f_is_below fd_is_below
  b_is_below : Binds K fd_is_below ["thing", "many"] []
  g_is_below : mg "is_below" = some (.ref f_is_below)
  f_are_parts : Addr
  fd_are_parts : FuncData
  F_are_parts : Fun K "are_parts" "are_parts" s_are_parts f_are_parts fd_are_parts
  b_are_parts : Binds K fd_are_parts ["thing", "many"] []
  g_are_parts : mg "are_parts" = some (.ref f_are_parts)
  f_beside : Addr
  fd_beside : FuncData
  F_beside : Fun K "beside" "beside" s_beside f_beside fd_beside
  b_beside : Binds K fd_beside ["rights", "ups", "corner"] []
  g_beside : mg "beside" = some (.ref f_beside)
  f_corners_at : Addr
  fd_corners_at : FuncData
  F_corners_at : Fun K "corners_at" "corners_at" s_corners_at f_corners_at fd_corners_at
  b_corners_at : Binds K fd_corners_at ["rights", "ups", "corner"] []
  g_corners_at : mg "corners_at" = some (.ref f_corners_at)
  f_is_edge_of : Addr
  fd_is_edge_of : FuncData
  F_is_edge_of : Fun K "is_edge_of" "is_edge_of" s_is_edge_of f_is_edge_of fd_is_edge_of
  b_is_edge_of : Binds K fd_is_edge_of ["rights", "ups", "thing"] []
  g_is_edge_of : mg "is_edge_of" = some (.ref f_is_edge_of)
  f_is_corner_of : Addr
  fd_is_corner_of : FuncData
  F_is_corner_of : Fun K "is_corner_of" "is_corner_of" s_is_corner_of f_is_corner_of fd_is_corner_of
  b_is_corner_of : Binds K fd_is_corner_of ["size", "thing"] []
  g_is_corner_of : mg "is_corner_of" = some (.ref f_is_corner_of)
  f_is_edge : Addr
  fd_is_edge : FuncData
  F_is_edge : Fun K "is_edge" "is_edge" s_is_edge f_is_edge fd_is_edge
  b_is_edge : Binds K fd_is_edge ["table", "thing"] []
  g_is_edge : mg "is_edge" = some (.ref f_is_edge)
  f_is_corner : Addr
  fd_is_corner : FuncData
  F_is_corner : Fun K "is_corner" "is_corner" s_is_corner f_is_corner fd_is_corner
  b_is_corner : Binds K fd_is_corner ["table", "thing"] []
  g_is_corner : mg "is_corner" = some (.ref f_is_corner)
  f_is_label : Addr
  fd_is_label : FuncData
  F_is_label : Fun K "is_label" "is_label" s_is_label f_is_label fd_is_label
  b_is_label : Binds K fd_is_label ["table", "thing"] []
  g_is_label : mg "is_label" = some (.ref f_is_label)
  f_law_bag : Addr
  fd_law_bag : FuncData
  F_law_bag : Fun K "_law_bag" "_law_bag" s_law_bag f_law_bag fd_law_bag
  b_law_bag : Binds K fd_law_bag ["_law_script"] []
  g_law_bag : mg "_law_bag" = some (.ref f_law_bag)
  f_law_take : Addr
  fd_law_take : FuncData
  F_law_take : Fun K "_law_take" "_law_take" s_law_take f_law_take fd_law_take
  b_law_take : Binds K fd_law_take ["_law_bag_here", "_law_many"] []
  g_law_take : mg "_law_take" = some (.ref f_law_take)
  f_law_some : Addr
  fd_law_some : FuncData
  F_law_some : Fun K "_law_some" "_law_some" s_law_some f_law_some fd_law_some
  b_law_some : Binds K fd_law_some ["_law_bag_here", "_law_things"] []
  g_law_some : mg "_law_some" = some (.ref f_law_some)
  f_law_mixed : Addr
  fd_law_mixed : FuncData
  F_law_mixed : Fun K "_law_mixed" "_law_mixed" s_law_mixed f_law_mixed fd_law_mixed
  b_law_mixed : Binds K fd_law_mixed ["_law_bag_here", "_law_things"] []
  g_law_mixed : mg "_law_mixed" = some (.ref f_law_mixed)
  f_law_alike : Addr
  fd_law_alike : FuncData
  F_law_alike : Fun K "_law_alike" "_law_alike" s_law_alike f_law_alike fd_law_alike
  b_law_alike : Binds K fd_law_alike ["_law_found", "_law_due"] []
  g_law_alike : mg "_law_alike" = some (.ref f_law_alike)
  f_law_is_int : Addr
  fd_law_is_int : FuncData
  F_law_is_int : Fun K "_law_is_int" "_law_is_int" s_law_is_int f_law_is_int fd_law_is_int
  b_law_is_int : Binds K fd_law_is_int ["_law_thing"] []
  g_law_is_int : mg "_law_is_int" = some (.ref f_law_is_int)
  f_law_joins : Addr
  fd_law_joins : FuncData
  F_law_joins : Fun K "_law_joins" "_law_joins" s_law_joins f_law_joins fd_law_joins
  b_law_joins : Binds K fd_law_joins ["_law_bag_here", "_law_size"] []
  g_law_joins : mg "_law_joins" = some (.ref f_law_joins)
  f_law_gated : Addr
  fd_law_gated : FuncData
  F_law_gated : Fun K "_law_gated" "_law_gated" s_law_gated f_law_gated fd_law_gated
  b_law_gated : Binds K fd_law_gated ["_law_bag_here", "_law_joins_here"] []
  g_law_gated : mg "_law_gated" = some (.ref f_law_gated)
  f_law_edges_of : Addr
  fd_law_edges_of : FuncData
  F_law_edges_of : Fun K "_law_edges_of" "_law_edges_of" s_law_edges_of f_law_edges_of fd_law_edges_of
  b_law_edges_of : Binds K fd_law_edges_of ["_law_rights", "_law_ups"] []
  g_law_edges_of : mg "_law_edges_of" = some (.ref f_law_edges_of)
  f_law_edges : Addr
  fd_law_edges : FuncData
  F_law_edges : Fun K "_law_edges" "_law_edges" s_law_edges f_law_edges fd_law_edges
  b_law_edges : Binds K fd_law_edges ["_law_table_here"] []
  g_law_edges : mg "_law_edges" = some (.ref f_law_edges)
  f_law_permutation : Addr
  fd_law_permutation : FuncData
  F_law_permutation : Fun K "_law_permutation" "_law_permutation" s_law_permutation f_law_permutation fd_law_permutation
  b_law_permutation : Binds K fd_law_permutation ["_law_bag_here", "_law_many", "_law_is_turn"] []
  g_law_permutation : mg "_law_permutation" = some (.ref f_law_permutation)
  f_law_dials : Addr
  fd_law_dials : FuncData
  F_law_dials : Fun K "_law_dials" "_law_dials" s_law_dials f_law_dials fd_law_dials
  b_law_dials : Binds K fd_law_dials ["_law_bag_here", "_law_edges_here", "_law_marks"] []
  g_law_dials : mg "_law_dials" = some (.ref f_law_dials)
  f_law_name : Addr
  fd_law_name : FuncData
  F_law_name : Fun K "_law_name" "_law_name" s_law_name f_law_name fd_law_name
  b_law_name : Binds K fd_law_name ["_law_bag_here"] []
  g_law_name : mg "_law_name" = some (.ref f_law_name)
  f_law_table : Addr
  fd_law_table : FuncData
  F_law_table : Fun K "_law_table" "_law_table" s_law_table f_law_table fd_law_table
  b_law_table : Binds K fd_law_table ["_law_bag_here", "_law_most"] []
  g_law_table : mg "_law_table" = some (.ref f_law_table)
  f_law_corners : Addr
  fd_law_corners : FuncData
  F_law_corners : Fun K "_law_corners" "_law_corners" s_law_corners f_law_corners fd_law_corners
  b_law_corners : Binds K fd_law_corners ["_law_table_here"] []
  g_law_corners : mg "_law_corners" = some (.ref f_law_corners)
  f_law_beside : Addr
  fd_law_beside : FuncData
  F_law_beside : Fun K "_law_beside" "_law_beside" s_law_beside f_law_beside fd_law_beside
  b_law_beside : Binds K fd_law_beside ["_law_table_here", "_law_corner"] []
  g_law_beside : mg "_law_beside" = some (.ref f_law_beside)
  f_law_point_of : Addr
  fd_law_point_of : FuncData
  F_law_point_of : Fun K "_law_point_of" "_law_point_of" s_law_point_of f_law_point_of fd_law_point_of
  b_law_point_of : Binds K fd_law_point_of ["_law_table_here", "_law_corner"] []
  g_law_point_of : mg "_law_point_of" = some (.ref f_law_point_of)
  f_law_points : Addr
  fd_law_points : FuncData
  F_law_points : Fun K "_law_points" "_law_points" s_law_points f_law_points fd_law_points
  b_law_points : Binds K fd_law_points ["_law_table_here"] []
  g_law_points : mg "_law_points" = some (.ref f_law_points)
  f_law_labels : Addr
  fd_law_labels : FuncData
  F_law_labels : Fun K "_law_labels" "_law_labels" s_law_labels f_law_labels fd_law_labels
  b_law_labels : Binds K fd_law_labels ["_law_table_here"] []
  g_law_labels : mg "_law_labels" = some (.ref f_law_labels)
  f_law_is_one_of : Addr
  fd_law_is_one_of : FuncData
  F_law_is_one_of : Fun K "_law_is_one_of" "_law_is_one_of" s_law_is_one_of f_law_is_one_of fd_law_is_one_of
  b_law_is_one_of : Binds K fd_law_is_one_of ["_law_thing", "_law_some_here"] []
  g_law_is_one_of : mg "_law_is_one_of" = some (.ref f_law_is_one_of)
  f_law_odd : Addr
  fd_law_odd : FuncData
  F_law_odd : Fun K "_law_odd" "_law_odd" s_law_odd f_law_odd fd_law_odd
  b_law_odd : Binds K fd_law_odd ["_law_bag_here"] []
  g_law_odd : mg "_law_odd" = some (.ref f_law_odd)
  f_law_bent : Addr
  fd_law_bent : FuncData
  F_law_bent : Fun K "_law_bent" "_law_bent" s_law_bent f_law_bent fd_law_bent
  b_law_bent : Binds K fd_law_bent ["_law_bag_here", "_law_thing", "_law_deep"] []
  g_law_bent : mg "_law_bent" = some (.ref f_law_bent)
  f_law : Addr
  fd_law : FuncData
  F_law : Fun K "law" "law" s_law f_law fd_law
  b_law : Binds K fd_law ["_law_script"] []
  g_law : mg "law" = some (.ref f_law)
  z_abs : mg "abs" = none
  z_bool : mg "bool" = none
  z_enumerate : mg "enumerate" = none
  z_int : mg "int" = none
  z_isinstance : mg "isinstance" = none
  z_len : mg "len" = none
  z_list : mg "list" = none
  z_range : mg "range" = none
  z_repr : mg "repr" = none
  z_set : mg "set" = none
  z_sorted : mg "sorted" = none
  z_str : mg "str" = none
  z_tuple : mg "tuple" = none
  c_WAYS : Addr
  g_WAYS : mg "WAYS" = some (.ref c_WAYS)
  k_WAYS : KTup K c_WAYS [V.str "right", V.str "up", V.str "left", V.str "down"]
section
variable {P : Program} {w : World} {K : PySem.W.Frag} {mg : Str → Option Value} {base : Heap}
theorem ok_law_bag (T : TX K mg) : FnG P w K mg base 1 T.f_law_bag T.fd_law_bag ["_law_script"] (spBag K) := by
  refine fn_ofG T.F_law_bag sc_law_bag (fun vs H Q E h => ?_) (fun cdv A outer s H vs Q hr hg h => ?_)
  · obtain ⟨a, ns, rfl, _⟩ := h
    rfl
  · obtain ⟨a, ns, rfl, hS, q⟩ := h
    refine ⟨_, pss_one (ps_ret (pe_lst (pa_cons pe_int (pa_cons pe_int (pa_cons pe_int (pa_cons (pe_lc (own := [("_law_cell", 1)]) rfl sc_law_bag.nd (pi_list (pe_slice sl_list (pv 0) po_none (po_some pe_int))) (blkOk_by (N := N_law_bag) (sc := defScope s_law_bag) (by decide +kernel)) (fun _ _ _ _ _ => pg_name (i := 1) sc_law_bag.nd rfl (.inl rfl)) (fun _ _ _ _ _ => pts_nil) (fun _ _ _ _ _ => pe_callB call_abs rfl T.z_abs (by decide +kernel) (pa_cons (pv 1) pa_nil))) pa_nil)))))), ?_⟩
    refine ⟨.ref a, rfl, 63, rfl, a, ns.map V.int, rfl, hS, fun p hp => ?_⟩
    rw [cut63]
    have hp1 : ∀ {G : Hp} {D : Addr} {o : HO}, G D = none → Same G (upd G D o) := fun n => same_upd_free n
    refine ⟨p, rfl, ⟨(ns.take 63).map V.int, .inl (.inl upd_same)⟩, fun D hD => ?_⟩
    have hpD : p ≠ D := fun z => by
      subst z
      rw [upd_same] at hD
      cases hD
    refine ⟨fun i m G => m = (ns.take 63).length - i ∧ i ≤ (ns.take 63).length ∧ G = upd (upd H p (.lst ((ns.take 63).map V.int))) D (.lst ((((ns.take 63).take i).map absI).map V.int)), ⟨_, rfl, Nat.zero_le _, rfl⟩, fun i m G hW => ?_⟩
    obtain ⟨rfl, hi, rfl⟩ := hW
    have at1 : ∀ {o : HO}, SqL K (upd (upd H p (.lst ((ns.take 63).map V.int))) D o) p ((ns.take 63).map V.int) := fun {o} => .inl (.inl (by rw [upd_ne hpD]; exact upd_same))
    by_cases hlt : i < (ns.take 63).length
    · have g : ((ns.take 63).map V.int)[i]? = some (.int ((ns.take 63)[i])) := by
        rw [List.getElem?_map, List.getElem?_eq_getElem hlt]
        rfl
      refine .inr ⟨⟨_, _, at1, g⟩, fun G => G = upd (upd H p (.lst ((ns.take 63).map V.int))) D (.lst ((((ns.take 63).take (i + 1)).map absI).map V.int)), fun G e => ⟨_, by omega, rfl, hlt, e⟩, fun x G hy => ?_⟩
      obtain ⟨rfl, fv⟩ := hy
      have ev := Option.some.inj ((fv _ at1).symm.trans g)
      subst ev
      refine ⟨rfl, ?_⟩
      unfold tYes
      refine iteT ?_
      refine ⟨_, rfl, _, rfl, _, upd_same, ?_, ?_⟩
      · rw [List.length_map, List.length_map, List.length_take, List.length_take]
        exact Nat.lt_of_le_of_lt (Nat.le_trans (Nat.min_le_right _ _) (Nat.min_le_left _ _)) (by decide)
      · rw [upd_upd, abs_step hlt]
        rfl
    · have e : i = (ns.take 63).length := by omega
      subst e
      rw [List.take_length]
      refine .inl ⟨⟨_, at1, by rw [List.length_map]; exact Nat.le_refl _⟩, (by decide : (4 : Nat) ≤ sizeLine), fun b hb => ?_⟩
      have hbD : b ≠ D := fun z => by
        subst z
        rw [upd_same] at hb
        cases hb
      have hb1 := hb
      rw [upd_ne hbD] at hb1
      have hbp : b ≠ p := fun z => by
        subst z
        rw [upd_same] at hb1
        cases hb1
      have hb2 := hb1
      rw [upd_ne hbp] at hb2
      exact q b D _ (((hp1 hp).trans (hp1 hD)).trans (hp1 hb)) hb2 hbD upd_same (by rw [upd_ne (Ne.symm hbD)]; exact upd_same)
theorem ok_is_integer (T : TX K mg) : FnG P w K mg base 1 T.f_is_integer T.fd_is_integer ["thing"] (spV ⟨K, P, w⟩ 1 m_is_integer) := by
  refine fnv_by (k := 0) 1 1 [false] (m := m_is_integer) (g := b_is_integer) (ow := [false]) (owL := [false]) rfl T.F_is_integer sc_is_integer rfl rfl rfl fun cdv A outer s H hr hg => ?_
  have hu1 := hu_of hr
  have hu64 := hr.units
  have hu65 := Nat.lt_of_le_of_lt (Nat.add_le_add_left (by decide : 65 ≤ 16 * 0 + 200) _) (Nat.add_assoc _ _ _ ▸ hr.un)
  have hgd := hg
  exact (vs_one (v_ret [] (pv_and (PV.bor (pv_inst T.z_isinstance T.z_int rfl (pv_b 0))) (pv_one (pv_not (PV.bor (pv_inst T.z_isinstance T.z_bool rfl (pv_b 0))))))))
theorem ok_are_parts (T : TX K mg) : FnG P w K mg base 1 T.f_are_parts T.fd_are_parts ["thing", "many"] (spV ⟨K, P, w⟩ 2 m_are_parts) := by
  refine fnv_by (k := 0) 2 2 [false, false] (m := m_are_parts) (g := b_are_parts) (ow := [false, false]) (owL := [false, false]) rfl T.F_are_parts sc_are_parts rfl rfl rfl fun cdv A outer s H hr hg => ?_
  have hu1 := hu_of hr
  have hu64 := hr.units
  have hu65 := Nat.lt_of_le_of_lt (Nat.add_le_add_left (by decide : 65 ≤ 16 * 0 + 200) _) (Nat.add_assoc _ _ _ ▸ hr.un)
  have hgd := hg
  exact (vs_one (v_ret [] (pv_and (PV.bor (pv_inst T.z_isinstance T.z_tuple rfl (pv_b 0))) (pv_one (pv_cmp (op_eqB hu64) (CmpOk.op (ok_eq _)) (PV.bor (pv_call1 call_lenA (ok_len _) T.z_len (by decide +kernel) (pv_b 0))) (pv_b 1) (nomark _))))))
theorem ok_beside (T : TX K mg) : FnG P w K mg base 1 T.f_beside T.fd_beside ["rights", "ups", "corner"] (spV ⟨K, P, w⟩ 3 m_beside) := by
  refine fnv_by (k := 0) 7 3 [false, false, false, false, false, false, false] (m := m_beside) (g := b_beside) (ow := [false, false, false, false, false, false, false]) (owL := [false, false, false, false, false, false, false]) rfl T.F_beside sc_beside rfl rfl rfl fun cdv A outer s H hr hg => ?_
  have hu1 := hu_of hr
  have hu64 := hr.units
  have hu65 := Nat.lt_of_le_of_lt (Nat.add_le_add_left (by decide : 65 ≤ 16 * 0 + 200) _) (Nat.add_assoc _ _ _ ▸ hr.un)
  have hgd := hg
  exact (vs_cons (ow1 := [false, false, false, false, false, false, false]) (v_unp (pv_v 2) (vg_t (vgs_cons (vg_n 3 sc_beside.nd) (vgs_cons (vg_n 4 sc_beside.nd) (vgs_cons (vg_n 5 sc_beside.nd) vgs_nil))) (hl := (tsl_cons (tsl_cons (tsl_cons tsl_nil)))))) (vs_cons (ow1 := [false, false, false, false, false, false, true]) (v_setF 6 sc_beside.nd (pv_lst pvs_nil)) (vs_cons (ow1 := [false, false, false, false, false, false, true]) (v_if (PVW.pt (pt_and (pt_cmp1 (op_eqB hu64) (ok_eq _) (pv_b 4) (PV.bor pv_int) (nomark _)) (pt_and1 (pt_cmp1 op_notN (ok_isNot _) (PV.bor (pv_ixA hu1 (pv_b 0) (pv_b 3))) (PV.bor pv_non) (nomark _))))) (vs_one (v_app 6 (pv_tup (pvs_cons (pv_ixA hu1 (pv_b 0) (pv_b 3)) (pvs_cons pv_int (pvs_cons (pv_v 5) pvs_nil)))))) vs_nil) (vs_cons (ow1 := [false, false, false, false, false, false, true]) (v_if (PVW.pt (pt_and (pt_cmp1 (op_eqB hu64) (ok_eq _) (pv_b 4) (PV.bor pv_int) (nomark _)) (pt_and1 (pt_in1 hu65 (pv_b 3) (pv_b 0))))) (vs_one (v_app 6 (pv_tup (pvs_cons (pv_idx hu65 (pv_b 0) (pv_b 3) ⟨rfl, rfl, rfl, rfl⟩) (pvs_cons pv_int (pvs_cons (pv_v 5) pvs_nil)))))) vs_nil) (vs_cons (ow1 := [false, false, false, false, false, false, true]) (v_if (PVW.pt (pt_and (pt_cmp1 (op_eqB hu64) (ok_eq _) (pv_b 5) (PV.bor pv_int) (nomark _)) (pt_and1 (pt_cmp1 op_notN (ok_isNot _) (PV.bor (pv_ixA hu1 (pv_b 1) (pv_b 3))) (PV.bor pv_non) (nomark _))))) (vs_one (v_app 6 (pv_tup (pvs_cons (pv_ixA hu1 (pv_b 1) (pv_b 3)) (pvs_cons (pv_v 4) (pvs_cons pv_int pvs_nil)))))) vs_nil) (vs_cons (ow1 := [false, false, false, false, false, false, true]) (v_if (PVW.pt (pt_and (pt_cmp1 (op_eqB hu64) (ok_eq _) (pv_b 5) (PV.bor pv_int) (nomark _)) (pt_and1 (pt_in1 hu65 (pv_b 3) (pv_b 1))))) (vs_one (v_app 6 (pv_tup (pvs_cons (pv_idx hu65 (pv_b 1) (pv_b 3) ⟨rfl, rfl, rfl, rfl⟩) (pvs_cons (pv_v 4) (pvs_cons pv_int pvs_nil)))))) vs_nil) (vs_freeze 6 (vs_one (v_ret [] (pv_v 6))))))))))
theorem ok_law_take (T : TX K mg) : FnG P w K mg base 1 T.f_law_take T.fd_law_take ["_law_bag_here", "_law_many"] (spV ⟨K, P, w⟩ 2 m_law_take) := by
  refine fnv_by (k := 0) 7 2 [false, false, false, false, false, false, false] (m := m_law_take) (g := b_law_take) (ow := [false, false, false, false, false, false, false]) (owL := [false, false, false, false, false, false, false]) rfl T.F_law_take sc_law_take rfl rfl rfl fun cdv A outer s H hr hg => ?_
  have hu1 := hu_of hr
  have hu64 := hr.units
  have hu65 := Nat.lt_of_le_of_lt (Nat.add_le_add_left (by decide : 65 ≤ 16 * 0 + 200) _) (Nat.add_assoc _ _ _ ▸ hr.un)
  have hgd := hg
  exact (vs_cons (ow1 := [false, false, false, false, false, false, false]) (v_if (pt_cmp1 (op_eqB hu64) (ok_eq _) (PV.bor (pv_bag 0 .k0)) (PV.bor pv_int) (nomark _)) (vs_cons (ow1 := [false, false, false, false, false, false, false]) (v_set 2 sc_law_take.nd (pv_ixA hu1 (PV.bor (pv_bin op_addD ok_add (PV.bor (pv_sl sl_all (ok_sl _) (PV.bor (pv_cells 0)) (pvo_s (PV.bor (pv_bag 0 .k2))) pvo_n)) (PV.borF (pv_lst (pvs_cons pv_int pvs_nil))))) (PV.bor pv_int))) (vs_cons (ow1 := [false, false, false, false, false, false, false]) (v_bagAug 0 .k2 pv_int) (vs_cons (ow1 := [false, false, false, false, false, false, false]) (v_if (pt_cmp1 op_ge (ok_ge _) (pv_b 2) (PV.bor (pv_bin op_pow (ok_pow _) (PV.bor pv_int) (PV.bor pv_int))) (nomark _)) (vs_one (v_bag 0 .k0 (pv_v 2))) vs_nil) (vs_cons (ow1 := [false, false, false, false, false, false, false]) (v_set 3 sc_law_take.nd (pv_bin op_addD ok_add (PV.bor (pv_bin op_addD ok_add (PV.bor (pv_bin op_mulD (ok_mul _) (PV.bor (pv_bag 0 .k1)) (PV.bor pv_int))) (PV.bor (pv_bin op_mod (ok_mod _) (PV.bor (pv_callT1 call_int1 (ok_int _) T.z_int (by decide +kernel) (pv_b 2))) (PV.bor pv_int))))) (PV.bor (pv_bin op_mulD (ok_mul _) (PV.bor pv_int) (PV.bor (pv_bag 0 .k2)))))) (vs_one (v_bag 0 .k1 (pv_bin op_mod (ok_mod _) (PV.bor (pv_callT1 call_int1 (ok_int _) T.z_int (by decide +kernel) (pv_b 3))) (PV.bor pv_int)))))))) vs_nil) (vs_cons (ow1 := [false, false, false, false, false, false, false]) (v_if (pt_cmp1 op_gt (ok_gt _) (PV.bor (pv_bag 0 .k0)) (PV.bor pv_int) (nomark _)) (vs_cons (ow1 := [false, false, false, false, false, false, false]) (v_set 4 sc_law_take.nd (pv_bin op_mod (ok_mod _) (PV.bor (pv_callT1 call_int1 (ok_int _) T.z_int (by decide +kernel) (PV.bor (pv_bag 0 .k0)))) (pv_b 1))) (vs_cons (ow1 := [false, false, false, false, false, false, false]) (v_bag 0 .k0 (pv_bin op_fdivB (ok_div _) (PV.bor (pv_callT1 call_int1 (ok_int _) T.z_int (by decide +kernel) (PV.bor (pv_bag 0 .k0)))) (pv_b 1))) (vs_one (v_ret [] (pv_v 4))))) vs_nil) (vs_cons (ow1 := [false, false, false, false, false, false, false]) (v_set 5 sc_law_take.nd (pv_bin op_mod (ok_mod _) (PV.bor (pv_callT1 call_int1 (ok_int _) T.z_int (by decide +kernel) (PV.bor (pv_bin op_mulD (ok_mul _) (PV.bor (pv_bin op_addD ok_add (PV.bor (pv_bag 0 .k1)) (PV.bor pv_int))) (PV.bor pv_int))))) (PV.bor pv_int))) (vs_cons (ow1 := [false, false, false, false, false, false, false]) (v_set 6 sc_law_take.nd (pv_bin op_mod (ok_mod _) (PV.bor (pv_callT1 call_int1 (ok_int _) T.z_int (by decide +kernel) (PV.bor (pv_bin op_mulD (ok_mul _) (PV.bor (pv_bin op_mod (ok_mod _) (PV.bor (pv_callT1 call_int1 (ok_int _) T.z_int (by decide +kernel) (PV.bor (pv_bin op_mulD (ok_mul _) (pv_b 5) (pv_b 5))))) (PV.bor pv_int))) (PV.bor pv_int))))) (PV.bor pv_int))) (vs_one (v_ret [] (pv_bin op_mod (ok_mod _) (PV.bor (pv_callT1 call_int1 (ok_int _) T.z_int (by decide +kernel) (PV.bor (pv_bin op_fdivB (ok_div _) (pv_b 6) (PV.bor pv_int))))) (pv_b 1))))))))
theorem ok_law_alike (T : TX K mg) : FnG P w K mg base 1 T.f_law_alike T.fd_law_alike ["_law_found", "_law_due"] (spV ⟨K, P, w⟩ 2 m_law_alike) := by
  refine fnv_by (k := 0) 2 2 [false, false] (m := m_law_alike) (g := b_law_alike) (ow := [false, false]) (owL := [false, false]) rfl T.F_law_alike sc_law_alike rfl rfl rfl fun cdv A outer s H hr hg => ?_
  have hu1 := hu_of hr
  have hu64 := hr.units
  have hu65 := Nat.lt_of_le_of_lt (Nat.add_le_add_left (by decide : 65 ≤ 16 * 0 + 200) _) (Nat.add_assoc _ _ _ ▸ hr.un)
  have hgd := hg
  exact (vs_one (v_ret [] (pv_and (PV.bor (pv_cmp (op_eqB hu64) (CmpOk.op (ok_eq _)) (pv_b 0) (pv_b 1) (nomark _))) (pv_one (pv_cmp (op_eqB hu64) (CmpOk.op (ok_eq _)) (PV.bor (pv_call1 (call_reprK hgd hu64) ok_reprK T.z_repr (by decide +kernel) (pv_b 0))) (PV.bor (pv_call1 (call_reprK hgd hu64) ok_reprK T.z_repr (by decide +kernel) (pv_b 1))) (nomark _))))))
theorem ok_law_is_int (T : TX K mg) : FnG P w K mg base 1 T.f_law_is_int T.fd_law_is_int ["_law_thing"] (spV ⟨K, P, w⟩ 1 m_law_is_int) := by
  refine fnv_by (k := 0) 1 1 [false] (m := m_law_is_int) (g := b_law_is_int) (ow := [false]) (owL := [false]) rfl T.F_law_is_int sc_law_is_int rfl rfl rfl fun cdv A outer s H hr hg => ?_
  have hu1 := hu_of hr
  have hu64 := hr.units
  have hu65 := Nat.lt_of_le_of_lt (Nat.add_le_add_left (by decide : 65 ≤ 16 * 0 + 200) _) (Nat.add_assoc _ _ _ ▸ hr.un)
  have hgd := hg
  exact (vs_one (v_ret [] (pv_and (PV.bor (pv_inst T.z_isinstance T.z_int rfl (pv_b 0))) (pv_one (pv_not (PV.bor (pv_inst T.z_isinstance T.z_bool rfl (pv_b 0))))))))
theorem ok_law_edges_of (T : TX K mg) : FnG P w K mg base 1 T.f_law_edges_of T.fd_law_edges_of ["_law_rights", "_law_ups"] (spV ⟨K, P, w⟩ 2 m_law_edges_of) := by
  refine fnv_by (k := 0) 5 2 [false, false, false, false, false] (m := m_law_edges_of) (g := b_law_edges_of) (ow := [false, false, false, false, false]) (owL := [false, false, false, false, false]) rfl T.F_law_edges_of sc_law_edges_of rfl rfl rfl fun cdv A outer s H hr hg => ?_
  have hu1 := hu_of hr
  have hu64 := hr.units
  have hu65 := Nat.lt_of_le_of_lt (Nat.add_le_add_left (by decide : 65 ≤ 16 * 0 + 200) _) (Nat.add_assoc _ _ _ ▸ hr.un)
  have hgd := hg
  exact (vs_cons (ow1 := [false, false, false, false, false]) (v_set 2 sc_law_edges_of.nd (PV.settle (pv_listR1 (PV.bor (pv_call1 call_lenA (ok_len _) T.z_len (by decide +kernel) (pv_b 0))) T.z_list T.z_range))) (vs_cons (ow1 := [false, false, false, false, false]) (v_set 3 sc_law_edges_of.nd (pv_bin op_addD ok_add (PV.borF (pv_lc (own := [("_law_c", 4)]) (us := []) sc_law_edges_of.nd (vi_lst (pv_v 2)) (blkOk_by (N := N_law_edges_of) (sc := defScope s_law_edges_of) (by decide +kernel)) (fun _ _ _ _ _ => (vg_n 4 sc_law_edges_of.nd)) (fun _ _ _ _ _ => (vts_one (pt_notIn1 hu65 (pv_b 4) (pv_b 1)))) (fun _ _ _ _ _ => (pv_tup (pvs_cons pv_str (pvs_cons (pv_v 4) pvs_nil)))))) (PV.borF (pv_lc (own := [("_law_c", 4)]) (us := []) sc_law_edges_of.nd (vi_lst (pv_v 2)) (blkOk_by (N := N_law_edges_of) (sc := defScope s_law_edges_of) (by decide +kernel)) (fun _ _ _ _ _ => (vg_n 4 sc_law_edges_of.nd)) (fun _ _ _ _ _ => (vts_one (pt_notIn1 hu65 (pv_b 4) (pv_b 0)))) (fun _ _ _ _ _ => (pv_tup (pvs_cons pv_str (pvs_cons (pv_v 4) pvs_nil)))))))) (vs_one (v_ret [] (pv_bin op_addD ok_add (PV.bor (pv_bin op_addD ok_add (pv_b 3) (PV.borF (pv_lc (own := [("_law_c", 4)]) (us := []) sc_law_edges_of.nd (vi_lst (pv_v 2)) (blkOk_by (N := N_law_edges_of) (sc := defScope s_law_edges_of) (by decide +kernel)) (fun _ _ _ _ _ => (vg_n 4 sc_law_edges_of.nd)) (fun _ _ _ _ _ => vts_nil) (fun _ _ _ _ _ => (pv_tup (pvs_cons pv_str (pvs_cons (pv_v 4) pvs_nil)))))))) (PV.borF (pv_lc (own := [("_law_c", 4)]) (us := []) sc_law_edges_of.nd (vi_lst (pv_v 2)) (blkOk_by (N := N_law_edges_of) (sc := defScope s_law_edges_of) (by decide +kernel)) (fun _ _ _ _ _ => (vg_n 4 sc_law_edges_of.nd)) (fun _ _ _ _ _ => vts_nil) (fun _ _ _ _ _ => (pv_tup (pvs_cons pv_str (pvs_cons (pv_v 4) pvs_nil)))))))))))
theorem ok_law_corners (T : TX K mg) : FnG P w K mg base 1 T.f_law_corners T.fd_law_corners ["_law_table_here"] (spV ⟨K, P, w⟩ 1 m_law_corners) := by
  refine fnv_by (k := 0) 3 1 [false, false, false] (m := m_law_corners) (g := b_law_corners) (ow := [false, false, false]) (owL := [false, false, false]) rfl T.F_law_corners sc_law_corners rfl rfl rfl fun cdv A outer s H hr hg => ?_
  have hu1 := hu_of hr
  have hu64 := hr.units
  have hu65 := Nat.lt_of_le_of_lt (Nat.add_le_add_left (by decide : 65 ≤ 16 * 0 + 200) _) (Nat.add_assoc _ _ _ ▸ hr.un)
  have hgd := hg
  exact (vs_cons (ow1 := [false, true, false]) (v_setF 1 sc_law_corners.nd (pv_lst pvs_nil)) (vs_cons (ow1 := [false, true, false]) (v_for PassesOwn.never (vi_rng1 (PV.bor (pv_ixA hu1 (pv_b 0) (PV.bor pv_int))) T.z_range) (vg_n 2 sc_law_corners.nd) (vs_one (v_ext 1 (PV.borF (pv_lst (pvs_cons (pv_tup (pvs_cons (pv_v 2) (pvs_cons pv_int (pvs_cons pv_int pvs_nil)))) (pvs_cons (pv_tup (pvs_cons (pv_v 2) (pvs_cons pv_int (pvs_cons pv_int pvs_nil)))) (pvs_cons (pv_tup (pvs_cons (pv_v 2) (pvs_cons pv_int (pvs_cons pv_int pvs_nil)))) (pvs_cons (pv_tup (pvs_cons (pv_v 2) (pvs_cons pv_int (pvs_cons pv_int pvs_nil)))) pvs_nil))))))))) (vs_freeze 1 (vs_one (v_ret [] (pv_v 1))))))
theorem ok_law_beside (T : TX K mg) : FnG P w K mg base 1 T.f_law_beside T.fd_law_beside ["_law_table_here", "_law_corner"] (spV ⟨K, P, w⟩ 2 m_law_beside) := by
  refine fnv_by (k := 0) 8 2 [false, false, false, false, false, false, false, false] (m := m_law_beside) (g := b_law_beside) (ow := [false, false, false, false, false, false, false, false]) (owL := [false, false, false, false, false, false, false, false]) rfl T.F_law_beside sc_law_beside rfl rfl rfl fun cdv A outer s H hr hg => ?_
  have hu1 := hu_of hr
  have hu64 := hr.units
  have hu65 := Nat.lt_of_le_of_lt (Nat.add_le_add_left (by decide : 65 ≤ 16 * 0 + 200) _) (Nat.add_assoc _ _ _ ▸ hr.un)
  have hgd := hg
  exact (vs_cons (ow1 := [false, false, false, false, false, false, false, false]) (v_unp (pv_v 1) (vg_t (vgs_cons (vg_n 2 sc_law_beside.nd) (vgs_cons (vg_n 3 sc_law_beside.nd) (vgs_cons (vg_n 4 sc_law_beside.nd) vgs_nil))) (hl := (tsl_cons (tsl_cons (tsl_cons tsl_nil)))))) (vs_cons (ow1 := [false, false, false, false, false, false, false, false]) (v_par2 sc_law_beside.nd (pvs_cons (pv_ixA hu1 (PV.bor (pv_ixA hu1 (pv_b 0) (PV.bor pv_int))) (pv_b 2)) (pvs_cons (pv_ixA hu1 (PV.bor (pv_ixA hu1 (pv_b 0) (PV.bor pv_int))) (pv_b 2)) pvs_nil))) (vs_cons (ow1 := [false, false, false, false, false, false, false, true]) (v_setF 7 sc_law_beside.nd (pv_lst pvs_nil)) (vs_cons (ow1 := [false, false, false, false, false, false, false, true]) (v_if (PVW.pt (pt_and (pt_cmp1 (op_eqB hu64) (ok_eq _) (pv_b 3) (PV.bor pv_int) (nomark _)) (pt_and1 (pt_cmp1 op_notN (ok_isNot _) (pv_b 5) (PV.bor pv_non) (nomark _))))) (vs_one (v_app 7 (pv_tup (pvs_cons (pv_v 5) (pvs_cons pv_int (pvs_cons (pv_v 4) pvs_nil)))))) vs_nil) (vs_cons (ow1 := [false, false, false, false, false, false, false, true]) (v_if (PVW.pt (pt_and (pt_cmp1 (op_eqB hu64) (ok_eq _) (pv_b 3) (PV.bor pv_int) (nomark _)) (pt_and1 (pt_in1 hu65 (pv_b 2) (PV.bor (pv_ixA hu1 (pv_b 0) (PV.bor pv_int))))))) (vs_one (v_app 7 (pv_tup (pvs_cons (pv_idx hu65 (PV.bor (pv_ixA hu1 (pv_b 0) (PV.bor pv_int))) (pv_b 2) ⟨rfl, rfl, rfl, rfl⟩) (pvs_cons pv_int (pvs_cons (pv_v 4) pvs_nil)))))) vs_nil) (vs_cons (ow1 := [false, false, false, false, false, false, false, true]) (v_if (PVW.pt (pt_and (pt_cmp1 (op_eqB hu64) (ok_eq _) (pv_b 4) (PV.bor pv_int) (nomark _)) (pt_and1 (pt_cmp1 op_notN (ok_isNot _) (pv_b 6) (PV.bor pv_non) (nomark _))))) (vs_one (v_app 7 (pv_tup (pvs_cons (pv_v 6) (pvs_cons (pv_v 3) (pvs_cons pv_int pvs_nil)))))) vs_nil) (vs_cons (ow1 := [false, false, false, false, false, false, false, true]) (v_if (PVW.pt (pt_and (pt_cmp1 (op_eqB hu64) (ok_eq _) (pv_b 4) (PV.bor pv_int) (nomark _)) (pt_and1 (pt_in1 hu65 (pv_b 2) (PV.bor (pv_ixA hu1 (pv_b 0) (PV.bor pv_int))))))) (vs_one (v_app 7 (pv_tup (pvs_cons (pv_idx hu65 (PV.bor (pv_ixA hu1 (pv_b 0) (PV.bor pv_int))) (pv_b 2) ⟨rfl, rfl, rfl, rfl⟩) (pvs_cons (pv_v 3) (pvs_cons pv_int pvs_nil)))))) vs_nil) (vs_freeze 7 (vs_one (v_ret [] (pv_v 7)))))))))))
theorem ok_law_is_one_of (T : TX K mg) : FnG P w K mg base 1 T.f_law_is_one_of T.fd_law_is_one_of ["_law_thing", "_law_some_here"] (spV ⟨K, P, w⟩ 2 m_law_is_one_of) := by
  refine fnv_by (k := 0) 3 2 [false, false, false] (m := m_law_is_one_of) (g := b_law_is_one_of) (ow := [false, false, false]) (owL := [false, false, false]) rfl T.F_law_is_one_of sc_law_is_one_of rfl rfl rfl fun cdv A outer s H hr hg => ?_
  have hu1 := hu_of hr
  have hu64 := hr.units
  have hu65 := Nat.lt_of_le_of_lt (Nat.add_le_add_left (by decide : 65 ≤ 16 * 0 + 200) _) (Nat.add_assoc _ _ _ ▸ hr.un)
  have hgd := hg
  exact (vs_one (v_ret [] (pv_and (PV.bor (pv_inst T.z_isinstance T.z_tuple rfl (pv_b 0))) (pv_one (pv_in hu65 (PV.bor (pv_call1 (call_reprK hgd hu64) ok_reprK T.z_repr (by decide +kernel) (pv_b 0))) (PV.borF (pv_lc (own := [("_law_one", 2)]) (us := []) sc_law_is_one_of.nd (vi_lst (pv_v 1)) (blkOk_by (N := N_law_is_one_of) (sc := defScope s_law_is_one_of) (by decide +kernel)) (fun _ _ _ _ _ => (vg_n 2 sc_law_is_one_of.nd)) (fun _ _ _ _ _ => vts_nil) (fun _ _ _ _ _ => (pv_call1 (call_reprK hgd hu64) ok_reprK T.z_repr (by decide +kernel) (pv_b 2))))))))))
theorem ok_is_below (T : TX K mg) : FnG P w K mg base 2 T.f_is_below T.fd_is_below ["thing", "many"] (spV ⟨K, P, w⟩ 2 m_is_below) := by
  refine fnv_by (k := 1) 2 2 [false, false] (m := m_is_below) (g := b_is_below) (ow := [false, false]) (owL := [false, false]) rfl T.F_is_below sc_is_below rfl rfl rfl fun cdv A outer s H hr hg => ?_
  have hu1 := hu_of hr
  have hu64 := hr.units
  have hu65 := Nat.lt_of_le_of_lt (Nat.add_le_add_left (by decide : 65 ≤ 16 * 1 + 200) _) (Nat.add_assoc _ _ _ ▸ hr.un)
  have hgd := hg
  exact (vs_one (v_ret [] (pv_and (PV.bor (pv_call (ok_is_integer T) (hr.mono (by decide)) hgd T.g_is_integer T.F_is_integer.kp T.b_is_integer (pvs_cons (pv_v 0) pvs_nil))) (pv_one (pv_chain op_le op_lt (ok_le _) (ok_lt _) (PV.bor pv_int) (pv_b 0) (pv_b 1))))))
theorem ok_corners_at (T : TX K mg) : FnG P w K mg base 2 T.f_corners_at T.fd_corners_at ["rights", "ups", "corner"] (spV ⟨K, P, w⟩ 3 m_corners_at) := by
  refine fnv_by (k := 1) 6 3 [false, false, false, false, false, false] (m := m_corners_at) (g := b_corners_at) (ow := [false, false, false, false, false, false]) (owL := [false, false, false, false, false, false]) rfl T.F_corners_at sc_corners_at rfl rfl rfl fun cdv A outer s H hr hg => ?_
  have hu1 := hu_of hr
  have hu64 := hr.units
  have hu65 := Nat.lt_of_le_of_lt (Nat.add_le_add_left (by decide : 65 ≤ 16 * 1 + 200) _) (Nat.add_assoc _ _ _ ▸ hr.un)
  have hgd := hg
  exact (vs_cons (ow1 := [false, false, false, true, false, false]) (v_parN (is := [3, 4]) sc_corners_at.nd (pvs_cons (pv_lst (pvs_cons (pv_v 2) pvs_nil)) (pvs_cons pv_int pvs_nil)) (gs_cons sc_corners_at.nd (gs_cons sc_corners_at.nd gs_nil))) (vs_cons (ow1 := [false, false, false, true, false, false]) (v_while fuel PassesOwn.never (pt_cmp1 op_lt (ok_lt _) (pv_b 4) (PV.bor (pv_call1 call_lenA (ok_len _) T.z_len (by decide +kernel) (pv_b 3))) (nomark _)) (vs_cons (ow1 := [false, false, false, true, false, false]) (v_ext 3 (PV.borF (pv_lc (own := [("other", 5)]) (us := []) sc_corners_at.nd (vi_lst (pv_call (ok_beside T) (hr.mono (by decide)) hgd T.g_beside T.F_beside.kp T.b_beside (pvs_cons (pv_v 0) (pvs_cons (pv_v 1) (pvs_cons (pv_ixA hu1 (pv_b 3) (pv_b 4)) pvs_nil))))) (blkOk_by (N := N_corners_at) (sc := defScope s_corners_at) (by decide +kernel)) (fun _ _ _ _ _ => (vg_n 5 sc_corners_at.nd)) (fun _ _ _ _ _ => (vts_one (pt_notIn1 hu65 (pv_b 5) (pv_b 3)))) (fun _ _ _ _ _ => (pv_v 5))))) (vs_one (v_augI 4 sc_corners_at.nd ip_add (PV.bor pv_int))))) (vs_freeze 3 (vs_one (v_ret [] (pv_callT1 call_tupNA (ok_tupN _) T.z_tuple (by decide +kernel) (PV.borF (pv_call1 (cr_sortD hu64) (ok_sortD _) T.z_sorted (by decide +kernel) (pv_b 3)))))))))
theorem ok_law_some (T : TX K mg) : FnG P w K mg base 2 T.f_law_some T.fd_law_some ["_law_bag_here", "_law_things"] (spV ⟨K, P, w⟩ 2 m_law_some) := by
  refine fnv_by (k := 1) 2 2 [false, false] (m := m_law_some) (g := b_law_some) (ow := [false, false]) (owL := [false, false]) rfl T.F_law_some sc_law_some rfl rfl rfl fun cdv A outer s H hr hg => ?_
  have hu1 := hu_of hr
  have hu64 := hr.units
  have hu65 := Nat.lt_of_le_of_lt (Nat.add_le_add_left (by decide : 65 ≤ 16 * 1 + 200) _) (Nat.add_assoc _ _ _ ▸ hr.un)
  have hgd := hg
  exact (vs_one (v_ret [] (pv_ixA hu1 (pv_b 1) (PV.bor (pv_call (ok_law_take T) (hr.mono (by decide)) hgd T.g_law_take T.F_law_take.kp T.b_law_take (pvs_cons (pv_v 0) (pvs_cons (pv_call1 call_lenA (ok_len _) T.z_len (by decide +kernel) (pv_b 1)) pvs_nil)))))))
theorem ok_law_mixed (T : TX K mg) : FnG P w K mg base 2 T.f_law_mixed T.fd_law_mixed ["_law_bag_here", "_law_things"] (spV ⟨K, P, w⟩ 2 m_law_mixed) := by
  refine fnv_by (k := 1) 4 2 [false, false, false, false] (m := m_law_mixed) (g := b_law_mixed) (ow := [false, false, false, false]) (owL := [false, false, false, false]) rfl T.F_law_mixed sc_law_mixed rfl rfl rfl fun cdv A outer s H hr hg => ?_
  have hu1 := hu_of hr
  have hu64 := hr.units
  have hu65 := Nat.lt_of_le_of_lt (Nat.add_le_add_left (by decide : 65 ≤ 16 * 1 + 200) _) (Nat.add_assoc _ _ _ ▸ hr.un)
  have hgd := hg
  exact (vs_cons (ow1 := [false, false, true, false]) (v_setF 2 sc_law_mixed.nd (pv_lst pvs_nil)) (vs_cons (ow1 := [false, false, true, false]) (v_for PassesOwn.never (vi_lst (pv_v 1)) (vg_n 3 sc_law_mixed.nd) (vs_one (v_ins 2 (PV.bor (pv_call (ok_law_take T) (hr.mono (by decide)) hgd T.g_law_take T.F_law_take.kp T.b_law_take (pvs_cons (pv_v 0) (pvs_cons (pv_bin op_addD ok_add (PV.bor (pv_call1 call_lenA (ok_len _) T.z_len (by decide +kernel) (pv_b 2))) (PV.bor pv_int)) pvs_nil)))) (pv_v 3)))) (vs_freeze 2 (vs_one (v_ret [] (pv_v 2))))))
theorem okF_law_mixed (T : TX K mg) : FnG P w K mg base 2 T.f_law_mixed T.fd_law_mixed ["_law_bag_here", "_law_things"] (spF ⟨K, P, w⟩ 2 mF_law_mixed) := by
  refine fnF_by (k := 1) 4 2 2 [false, false, false, false] (m := mF_law_mixed) (g := bF_law_mixed) rfl T.F_law_mixed sc_law_mixed rfl rfl rfl fun cdv A outer s H hr hg => ?_
  have hu1 := hu_of hr
  have hu64 := hr.units
  have hu65 := Nat.lt_of_le_of_lt (Nat.add_le_add_left (by decide : 65 ≤ 16 * 1 + 200) _) (Nat.add_assoc _ _ _ ▸ hr.un)
  have hgd := hg
  exact (vf_cons (ow1 := [false, false, true, false]) (owL := [false, false, true, false]) (v_setF 2 sc_law_mixed.nd (pv_lst pvs_nil)) (vf_cons (ow1 := [false, false, true, false]) (owL := [false, false, true, false]) (v_for PassesOwn.never (vi_lst (pv_v 1)) (vg_n 3 sc_law_mixed.nd) (vs_one (v_ins 2 (PV.bor (pv_call (ok_law_take T) (hr.mono (by decide)) hgd T.g_law_take T.F_law_take.kp T.b_law_take (pvs_cons (pv_v 0) (pvs_cons (pv_bin op_addD ok_add (PV.bor (pv_call1 call_lenA (ok_len _) T.z_len (by decide +kernel) (pv_b 2))) (PV.bor pv_int)) pvs_nil)))) (pv_v 3)))) vf_ret))
theorem ok_law_edges (T : TX K mg) : FnG P w K mg base 2 T.f_law_edges T.fd_law_edges ["_law_table_here"] (spV ⟨K, P, w⟩ 1 m_law_edges) := by
  refine fnv_by (k := 1) 1 1 [false] (m := m_law_edges) (g := b_law_edges) (ow := [false]) (owL := [false]) rfl T.F_law_edges sc_law_edges rfl rfl rfl fun cdv A outer s H hr hg => ?_
  have hu1 := hu_of hr
  have hu64 := hr.units
  have hu65 := Nat.lt_of_le_of_lt (Nat.add_le_add_left (by decide : 65 ≤ 16 * 1 + 200) _) (Nat.add_assoc _ _ _ ▸ hr.un)
  have hgd := hg
  exact (vs_one (v_ret [] (pv_call (ok_law_edges_of T) (hr.mono (by decide)) hgd T.g_law_edges_of T.F_law_edges_of.kp T.b_law_edges_of (pvs_cons (pv_ixA hu1 (pv_b 0) (PV.bor pv_int)) (pvs_cons (pv_ixA hu1 (pv_b 0) (PV.bor pv_int)) pvs_nil)))))
theorem ok_law_point_of (T : TX K mg) : FnG P w K mg base 2 T.f_law_point_of T.fd_law_point_of ["_law_table_here", "_law_corner"] (spV ⟨K, P, w⟩ 2 m_law_point_of) := by
  refine fnv_by (k := 1) 5 2 [false, false, false, false, false] (m := m_law_point_of) (g := b_law_point_of) (ow := [false, false, false, false, false]) (owL := [false, false, false, false, false]) rfl T.F_law_point_of sc_law_point_of rfl rfl rfl fun cdv A outer s H hr hg => ?_
  have hu1 := hu_of hr
  have hu64 := hr.units
  have hu65 := Nat.lt_of_le_of_lt (Nat.add_le_add_left (by decide : 65 ≤ 16 * 1 + 200) _) (Nat.add_assoc _ _ _ ▸ hr.un)
  have hgd := hg
  exact (vs_cons (ow1 := [false, false, true, false, false]) (v_parN (is := [2, 3]) sc_law_point_of.nd (pvs_cons (pv_lst (pvs_cons (pv_v 1) pvs_nil)) (pvs_cons pv_int pvs_nil)) (gs_cons sc_law_point_of.nd (gs_cons sc_law_point_of.nd gs_nil))) (vs_cons (ow1 := [false, false, true, false, false]) (v_while fuel PassesOwn.never (pt_cmp1 op_lt (ok_lt _) (pv_b 3) (PV.bor (pv_call1 call_lenA (ok_len _) T.z_len (by decide +kernel) (pv_b 2))) (nomark _)) (vs_cons (ow1 := [false, false, true, false, false]) (v_ext 2 (PV.borF (pv_lc (own := [("_law_one", 4)]) (us := []) sc_law_point_of.nd (vi_lst (PV.settle (pv_sortSetN rfl hu64 T.z_sorted T.z_set (PV.bor (pv_call (ok_law_beside T) (hr.mono (by decide)) hgd T.g_law_beside T.F_law_beside.kp T.b_law_beside (pvs_cons (pv_v 0) (pvs_cons (pv_ixA hu1 (pv_b 2) (pv_b 3)) pvs_nil))))))) (blkOk_by (N := N_law_point_of) (sc := defScope s_law_point_of) (by decide +kernel)) (fun _ _ _ _ _ => (vg_n 4 sc_law_point_of.nd)) (fun _ _ _ _ _ => (vts_one (pt_notIn1 hu65 (pv_b 4) (pv_b 2)))) (fun _ _ _ _ _ => (pv_v 4))))) (vs_one (v_augI 3 sc_law_point_of.nd ip_add (PV.bor pv_int))))) (vs_freeze 2 (vs_one (v_ret [] (pv_callT1 call_tupNA (ok_tupN _) T.z_tuple (by decide +kernel) (PV.borF (pv_call1 (cr_sortD hu64) (ok_sortD _) T.z_sorted (by decide +kernel) (pv_b 2)))))))))
theorem ok_law_labels (T : TX K mg) : FnG P w K mg base 2 T.f_law_labels T.fd_law_labels ["_law_table_here"] (spV ⟨K, P, w⟩ 1 m_law_labels) := by
  refine fnv_by (k := 1) 4 1 [false, false, false, false] (m := m_law_labels) (g := b_law_labels) (ow := [false, false, false, false]) (owL := [false, false, false, false]) rfl T.F_law_labels sc_law_labels rfl rfl rfl fun cdv A outer s H hr hg => ?_
  have hu1 := hu_of hr
  have hu64 := hr.units
  have hu65 := Nat.lt_of_le_of_lt (Nat.add_le_add_left (by decide : 65 ≤ 16 * 1 + 200) _) (Nat.add_assoc _ _ _ ▸ hr.un)
  have hgd := hg
  exact (vs_cons (ow1 := [false, true, false, false]) (v_setF 1 sc_law_labels.nd (pv_lst pvs_nil)) (vs_cons (ow1 := [false, true, false, false]) (v_for PassesOwn.never (vi_lst (pv_call (ok_law_corners T) (hr.mono (by decide)) hgd T.g_law_corners T.F_law_corners.kp T.b_law_corners (pvs_cons (pv_v 0) pvs_nil))) (vg_n 2 sc_law_labels.nd) (vs_one (v_ext 1 (PV.borF (pv_lc (own := [("_law_mark", 3)]) (us := []) sc_law_labels.nd (vi_rng1 (PV.bor (pv_ixA hu1 (pv_b 0) (PV.bor pv_int))) T.z_range) (blkOk_by (N := N_law_labels) (sc := defScope s_law_labels) (by decide +kernel)) (fun _ _ _ _ _ => (vg_n 3 sc_law_labels.nd)) (fun _ _ _ _ _ => vts_nil) (fun _ _ _ _ _ => (pv_bin op_addD ok_add (pv_b 2) (PV.bor (pv_tup (pvs_cons (pv_v 3) pvs_nil)))))))))) (vs_freeze 1 (vs_one (v_ret [] (pv_v 1))))))
theorem ok_is_edge_of (T : TX K mg) : FnG P w K mg base 3 T.f_is_edge_of T.fd_is_edge_of ["rights", "ups", "thing"] (spV ⟨K, P, w⟩ 3 m_is_edge_of) := by
  refine fnv_by (k := 2) 5 3 [false, false, false, false, false] (m := m_is_edge_of) (g := b_is_edge_of) (ow := [false, false, false, false, false]) (owL := [false, false, false, false, false]) rfl T.F_is_edge_of sc_is_edge_of rfl rfl rfl fun cdv A outer s H hr hg => ?_
  have hu1 := hu_of hr
  have hu64 := hr.units
  have hu65 := Nat.lt_of_le_of_lt (Nat.add_le_add_left (by decide : 65 ≤ 16 * 2 + 200) _) (Nat.add_assoc _ _ _ ▸ hr.un)
  have hgd := hg
  exact (vs_cons (ow1 := [false, false, false, false, false]) (v_if (PVW.pt (pt_or (pt_not1 (pt_v (PV.bor (pv_call (ok_are_parts T) (hr.mono (by decide)) hgd T.g_are_parts T.F_are_parts.kp T.b_are_parts (pvs_cons (pv_v 2) (pvs_cons pv_int pvs_nil)))))) (pt_or (pt_not1 (pt_v (PV.bor (pv_inst T.z_isinstance T.z_str rfl (PV.bor (pv_ixA hu1 (pv_b 2) (PV.bor pv_int))))))) (pt_or1 (pt_notIn1 hu65 (PV.bor (pv_ixA hu1 (pv_b 2) (PV.bor pv_int))) (PV.bor (pv_glob T.g_WAYS T.k_WAYS (fun _ _ => (.cons (.str _) (.cons (.str _) (.cons (.str _) (.cons (.str _) .nil)))))))))))) (vs_one (v_ret [] pv_bl)) vs_nil) (vs_cons (ow1 := [false, false, false, false, false]) (v_if (pt_not1 (pt_v (PV.bor (pv_call (ok_is_below T) (hr.mono (by decide)) hgd T.g_is_below T.F_is_below.kp T.b_is_below (pvs_cons (pv_ixA hu1 (pv_b 2) (PV.bor pv_int)) (pvs_cons (pv_call1 call_lenA (ok_len _) T.z_len (by decide +kernel) (pv_b 0)) pvs_nil)))))) (vs_one (v_ret [] pv_bl)) vs_nil) (vs_cons (ow1 := [false, false, false, false, false]) (v_unp (pv_v 2) (vg_t (vgs_cons (vg_n 3 sc_is_edge_of.nd) (vgs_cons (vg_n 4 sc_is_edge_of.nd) vgs_nil)) (hl := (tsl_cons (tsl_cons tsl_nil))))) (vs_one (v_ret [] (pv_or (PV.bor (pv_in hu65 (pv_b 3) (PV.bor (pv_tup (pvs_cons pv_str (pvs_cons pv_str pvs_nil)))))) (pv_one (pv_notIn hu65 (pv_b 4) (pv_if (pt_cmp1 (op_eqB hu64) (ok_eq _) (pv_b 3) (PV.bor pv_str) (nomark _)) (pv_b 0) (pv_b 1))))))))))
theorem ok_is_corner_of (T : TX K mg) : FnG P w K mg base 3 T.f_is_corner_of T.fd_is_corner_of ["size", "thing"] (spV ⟨K, P, w⟩ 2 m_is_corner_of) := by
  refine fnv_by (k := 2) 2 2 [false, false] (m := m_is_corner_of) (g := b_is_corner_of) (ow := [false, false]) (owL := [false, false]) rfl T.F_is_corner_of sc_is_corner_of rfl rfl rfl fun cdv A outer s H hr hg => ?_
  have hu1 := hu_of hr
  have hu64 := hr.units
  have hu65 := Nat.lt_of_le_of_lt (Nat.add_le_add_left (by decide : 65 ≤ 16 * 2 + 200) _) (Nat.add_assoc _ _ _ ▸ hr.un)
  have hgd := hg
  exact (vs_one (v_ret [] (pv_and (PV.bor (pv_call (ok_are_parts T) (hr.mono (by decide)) hgd T.g_are_parts T.F_are_parts.kp T.b_are_parts (pvs_cons (pv_v 1) (pvs_cons pv_int pvs_nil)))) (pv_and (PV.bor (pv_call (ok_is_below T) (hr.mono (by decide)) hgd T.g_is_below T.F_is_below.kp T.b_is_below (pvs_cons (pv_ixA hu1 (pv_b 1) (PV.bor pv_int)) (pvs_cons (pv_v 0) pvs_nil)))) (pv_and (PV.bor (pv_call (ok_is_below T) (hr.mono (by decide)) hgd T.g_is_below T.F_is_below.kp T.b_is_below (pvs_cons (pv_ixA hu1 (pv_b 1) (PV.bor pv_int)) (pvs_cons pv_int pvs_nil)))) (pv_one (pv_call (ok_is_below T) (hr.mono (by decide)) hgd T.g_is_below T.F_is_below.kp T.b_is_below (pvs_cons (pv_ixA hu1 (pv_b 1) (PV.bor pv_int)) (pvs_cons pv_int pvs_nil)))))))))
theorem ok_law_gated (T : TX K mg) : FnG P w K mg base 3 T.f_law_gated T.fd_law_gated ["_law_bag_here", "_law_joins_here"] (spV ⟨K, P, w⟩ 2 m_law_gated) := by
  refine fnv_by (k := 2) 5 2 [false, false, false, false, false] (m := m_law_gated) (g := b_law_gated) (ow := [false, false, false, false, false]) (owL := [false, false, false, false, false]) rfl T.F_law_gated sc_law_gated rfl rfl rfl fun cdv A outer s H hr hg => ?_
  have hu1 := hu_of hr
  have hu64 := hr.units
  have hu65 := Nat.lt_of_le_of_lt (Nat.add_le_add_left (by decide : 65 ≤ 16 * 2 + 200) _) (Nat.add_assoc _ _ _ ▸ hr.un)
  have hgd := hg
  exact (vs_cons (ow1 := [false, false, true, false, false]) (v_setF 2 sc_law_gated.nd (pv_callF (okF_law_mixed T) (hr.mono (by decide)) hgd T.g_law_mixed T.F_law_mixed.kp T.b_law_mixed (pvs_cons (pv_v 0) (pvs_cons (PV.settle (pv_lc (own := [("_law_cell", 4)]) (us := []) sc_law_gated.nd (vi_rng1 (PV.bor (pv_call1 call_lenA (ok_len _) T.z_len (by decide +kernel) (pv_b 1))) T.z_range) (blkOk_by (N := N_law_gated) (sc := defScope s_law_gated) (by decide +kernel)) (fun _ _ _ _ _ => (vg_n 4 sc_law_gated.nd)) (fun _ _ _ _ _ => (vts_one (pt_notIn1 hu65 (pv_b 4) (pv_b 1)))) (fun _ _ _ _ _ => (pv_v 4)))) pvs_nil)))) (vs_cons (ow1 := [false, false, true, true, false]) (v_setF 3 sc_law_gated.nd (pv_callT1 call_list_of (ok_list _) T.z_list (by decide +kernel) (pv_b 1))) (vs_cons (ow1 := [false, false, true, true, false]) (v_for PassesOwn.never (vi_rng1 (PV.bor (pv_call1 call_lenA (ok_len _) T.z_len (by decide +kernel) (pv_b 1))) T.z_range) (vg_n 4 sc_law_gated.nd) (vs_one (v_if (PVW.pt (pt_and (pt_cmp1 op_isN (ok_is _) (PV.bor (pv_ixA hu1 (pv_b 3) (pv_b 4))) (PV.bor pv_non) (nomark _)) (pt_and (pt_cmp1 (op_neB hu64) (ok_ne _) (pv_b 2) (PV.borF (pv_lst pvs_nil)) (nomark _)) (pt_and1 (pt_cmp1 op_gt (ok_gt _) (PV.bor (pv_call (ok_law_take T) (hr.mono (by decide)) hgd T.g_law_take T.F_law_take.kp T.b_law_take (pvs_cons (pv_v 0) (pvs_cons pv_int pvs_nil)))) (PV.bor pv_int) (nomark _)))))) (vs_one (v_setPop 3 2 (pv_b 4))) vs_nil))) (vs_freeze 2 (vs_freeze 3 (vs_one (v_ret [] (pv_v 3))))))))
theorem ok_law_permutation (T : TX K mg) : FnG P w K mg base 3 T.f_law_permutation T.fd_law_permutation ["_law_bag_here", "_law_many", "_law_is_turn"] (spV ⟨K, P, w⟩ 3 m_law_permutation) := by
  refine fnv_by (k := 2) 7 3 [false, false, false, false, false, false, false] (m := m_law_permutation) (g := b_law_permutation) (ow := [false, false, false, false, false, false, false]) (owL := [false, false, false, false, false, false, false]) rfl T.F_law_permutation sc_law_permutation rfl rfl rfl fun cdv A outer s H hr hg => ?_
  have hu1 := hu_of hr
  have hu64 := hr.units
  have hu65 := Nat.lt_of_le_of_lt (Nat.add_le_add_left (by decide : 65 ≤ 16 * 2 + 200) _) (Nat.add_assoc _ _ _ ▸ hr.un)
  have hgd := hg
  exact (vs_cons (ow1 := [false, false, false, false, false, false, false]) (v_set 3 sc_law_permutation.nd (pv_bin op_addD ok_add (PV.bor pv_int) (PV.bor (pv_call (ok_law_take T) (hr.mono (by decide)) hgd T.g_law_take T.F_law_take.kp T.b_law_take (pvs_cons (pv_v 0) (pvs_cons (pv_bin op_sub (ok_sub _) (pv_b 1) (PV.bor pv_int)) pvs_nil)))))) (vs_cons (ow1 := [false, false, false, false, true, false, false]) (v_setLc 4 (own := [("_law_at", 6)]) (us := []) sc_law_permutation.nd (vi_rng1 (pv_b 1) T.z_range) (blkOk_by (N := N_law_permutation) (sc := defScope s_law_permutation) (by decide +kernel)) (fun _ _ _ _ _ => (vg_n 6 sc_law_permutation.nd)) (fun _ _ _ _ _ => vts_nil) (fun _ _ _ _ _ => (pv_if (pt_cmp1 op_lt (ok_lt _) (PV.bor (pv_bin op_addD ok_add (pv_b 6) (pv_b 3))) (pv_b 1) (nomark _)) (pv_bin op_addD ok_add (pv_b 6) (pv_b 3)) (pv_bin op_sub (ok_sub _) (PV.bor (pv_bin op_addD ok_add (pv_b 6) (pv_b 3))) (pv_b 1))))) (vs_freeze 4 (vs_cons (ow1 := [false, false, false, false, false, false, false]) (v_set 5 sc_law_permutation.nd (pv_call (ok_law_mixed T) (hr.mono (by decide)) hgd T.g_law_mixed T.F_law_mixed.kp T.b_law_mixed (pvs_cons (pv_v 0) (pvs_cons (PV.settle (pv_listR1 (pv_b 1) T.z_list T.z_range)) pvs_nil)))) (vs_one (v_ret [] (pv_callT1 call_tupNA (ok_tupN _) T.z_tuple (by decide +kernel) (pv_if (PVW.pt (pt_or (pt_v (pv_b 2)) (pt_or1 (pt_cmp1 (op_eqB hu64) (ok_eq _) (pv_b 5) (PV.borF (pv_listR1 (pv_b 1) T.z_list T.z_range)) (nomark _))))) (pv_b 4) (pv_b 5)))))))))
theorem ok_law_name (T : TX K mg) : FnG P w K mg base 3 T.f_law_name T.fd_law_name ["_law_bag_here"] (spV ⟨K, P, w⟩ 1 m_law_name) := by
  refine fnv_by (k := 2) 1 1 [false] (m := m_law_name) (g := b_law_name) (ow := [false]) (owL := [false]) rfl T.F_law_name sc_law_name rfl rfl rfl fun cdv A outer s H hr hg => ?_
  have hu1 := hu_of hr
  have hu64 := hr.units
  have hu65 := Nat.lt_of_le_of_lt (Nat.add_le_add_left (by decide : 65 ≤ 16 * 2 + 200) _) (Nat.add_assoc _ _ _ ▸ hr.un)
  have hgd := hg
  exact (vs_one (v_ret [] (pv_call (ok_law_some T) (hr.mono (by decide)) hgd T.g_law_some T.F_law_some.kp T.b_law_some (pvs_cons (pv_v 0) (pvs_cons (PV.settle (pv_lst (pvs_cons pv_str (pvs_cons pv_str (pvs_cons pv_str (pvs_cons pv_str (pvs_cons pv_str (pvs_cons pv_str (pvs_cons pv_str (pvs_cons pv_str pvs_nil)))))))))) pvs_nil)))))
theorem ok_law_points (T : TX K mg) : FnG P w K mg base 3 T.f_law_points T.fd_law_points ["_law_table_here"] (spV ⟨K, P, w⟩ 1 m_law_points) := by
  refine fnv_by (k := 2) 2 1 [false, false] (m := m_law_points) (g := b_law_points) (ow := [false, false]) (owL := [false, false]) rfl T.F_law_points sc_law_points rfl rfl rfl fun cdv A outer s H hr hg => ?_
  have hu1 := hu_of hr
  have hu64 := hr.units
  have hu65 := Nat.lt_of_le_of_lt (Nat.add_le_add_left (by decide : 65 ≤ 16 * 2 + 200) _) (Nat.add_assoc _ _ _ ▸ hr.un)
  have hgd := hg
  exact (vs_one (v_ret [] (PV.settle (pv_sortSetN rfl hu64 T.z_sorted T.z_set (PV.borF (pv_lc (own := [("_law_corner", 1)]) (us := []) sc_law_points.nd (vi_lst (pv_call (ok_law_corners T) (hr.mono (by decide)) hgd T.g_law_corners T.F_law_corners.kp T.b_law_corners (pvs_cons (pv_v 0) pvs_nil))) (blkOk_by (N := N_law_points) (sc := defScope s_law_points) (by decide +kernel)) (fun _ _ _ _ _ => (vg_n 1 sc_law_points.nd)) (fun _ _ _ _ _ => vts_nil) (fun _ _ _ _ _ => (pv_call (ok_law_point_of T) (hr.mono (by decide)) hgd T.g_law_point_of T.F_law_point_of.kp T.b_law_point_of (pvs_cons (pv_v 0) (pvs_cons (pv_v 1) pvs_nil))))))))))
theorem ok_law_odd (T : TX K mg) : FnG P w K mg base 3 T.f_law_odd T.fd_law_odd ["_law_bag_here"] (spV ⟨K, P, w⟩ 1 m_law_odd) := by
  refine fnv_by (k := 2) 2 1 [false, false] (m := m_law_odd) (g := b_law_odd) (ow := [false, false]) (owL := [false, false]) rfl T.F_law_odd sc_law_odd rfl rfl rfl fun cdv A outer s H hr hg => ?_
  have hu1 := hu_of hr
  have hu64 := hr.units
  have hu65 := Nat.lt_of_le_of_lt (Nat.add_le_add_left (by decide : 65 ≤ 16 * 2 + 200) _) (Nat.add_assoc _ _ _ ▸ hr.un)
  have hgd := hg
  exact (vs_cons (ow1 := [false, false]) (v_set 1 sc_law_odd.nd (PV.settle (pv_lst (pvs_cons pv_non (pvs_cons pv_bl (pvs_cons pv_bl (pvs_cons pv_int (pvs_cons pv_int (pvs_cons (pv_un un_neg (ok_neg _) (PV.bor pv_int)) (pvs_cons (pv_bin op_pow (ok_pow _) (PV.bor pv_int) (PV.bor pv_int)) (pvs_cons pv_str (pvs_cons pv_str (pvs_cons pv_str (pvs_cons pv_str (pvs_cons (pv_tupN pvs_nil) (pvs_cons (PV.settle (pv_lst pvs_nil)) (pvs_cons (PV.settle pv_dict0) (pvs_cons (pv_tup (pvs_cons pv_int pvs_nil)) (pvs_cons (pv_tup (pvs_cons pv_int (pvs_cons pv_int pvs_nil))) (pvs_cons (pv_tup (pvs_cons pv_int (pvs_cons pv_int pvs_nil))) (pvs_cons (PV.settle (pv_lst (pvs_cons pv_int (pvs_cons pv_int pvs_nil)))) (pvs_cons (PV.settle (pv_disp (prs := [((xC (.str "a")), (xC (.int 1)))]) (pps_cons pv_str pv_int pps_nil))) pvs_nil)))))))))))))))))))))) (vs_one (v_ret [] (pv_call (ok_law_some T) (hr.mono (by decide)) hgd T.g_law_some T.F_law_some.kp T.b_law_some (pvs_cons (pv_v 0) (pvs_cons (pv_bin op_addD ok_add (pv_b 1) (PV.borF (pv_lst (pvs_cons (pv_tup (pvs_cons pv_str (pvs_cons pv_int pvs_nil))) (pvs_cons (pv_tup (pvs_cons pv_str (pvs_cons pv_str (pvs_cons pv_int (pvs_cons pv_int pvs_nil))))) (pvs_cons (pv_tup (pvs_cons pv_str (pvs_cons pv_int pvs_nil))) (pvs_cons (pv_tup (pvs_cons pv_int (pvs_cons pv_int (pvs_cons pv_int pvs_nil)))) (pvs_cons (pv_tup (pvs_cons pv_int (pvs_cons pv_int (pvs_cons pv_int (pvs_cons pv_int pvs_nil))))) (pvs_cons pv_str (pvs_cons (pv_tup (pvs_cons (pv_tup (pvs_cons pv_int (pvs_cons pv_int pvs_nil))) (pvs_cons (pv_tup (pvs_cons pv_int (pvs_cons pv_int pvs_nil))) pvs_nil))) pvs_nil)))))))))) pvs_nil))))))
theorem ok_is_edge (T : TX K mg) : FnG P w K mg base 4 T.f_is_edge T.fd_is_edge ["table", "thing"] (spV ⟨K, P, w⟩ 2 m_is_edge) := by
  refine fnv_by (k := 3) 2 2 [false, false] (m := m_is_edge) (g := b_is_edge) (ow := [false, false]) (owL := [false, false]) rfl T.F_is_edge sc_is_edge rfl rfl rfl fun cdv A outer s H hr hg => ?_
  have hu1 := hu_of hr
  have hu64 := hr.units
  have hu65 := Nat.lt_of_le_of_lt (Nat.add_le_add_left (by decide : 65 ≤ 16 * 3 + 200) _) (Nat.add_assoc _ _ _ ▸ hr.un)
  have hgd := hg
  exact (vs_one (v_ret [] (pv_call (ok_is_edge_of T) (hr.mono (by decide)) hgd T.g_is_edge_of T.F_is_edge_of.kp T.b_is_edge_of (pvs_cons (pv_ixA hu1 (pv_b 0) (PV.bor pv_int)) (pvs_cons (pv_ixA hu1 (pv_b 0) (PV.bor pv_int)) (pvs_cons (pv_v 1) pvs_nil))))))
theorem ok_is_corner (T : TX K mg) : FnG P w K mg base 4 T.f_is_corner T.fd_is_corner ["table", "thing"] (spV ⟨K, P, w⟩ 2 m_is_corner) := by
  refine fnv_by (k := 3) 2 2 [false, false] (m := m_is_corner) (g := b_is_corner) (ow := [false, false]) (owL := [false, false]) rfl T.F_is_corner sc_is_corner rfl rfl rfl fun cdv A outer s H hr hg => ?_
  have hu1 := hu_of hr
  have hu64 := hr.units
  have hu65 := Nat.lt_of_le_of_lt (Nat.add_le_add_left (by decide : 65 ≤ 16 * 3 + 200) _) (Nat.add_assoc _ _ _ ▸ hr.un)
  have hgd := hg
  exact (vs_one (v_ret [] (pv_call (ok_is_corner_of T) (hr.mono (by decide)) hgd T.g_is_corner_of T.F_is_corner_of.kp T.b_is_corner_of (pvs_cons (pv_ixA hu1 (pv_b 0) (PV.bor pv_int)) (pvs_cons (pv_v 1) pvs_nil)))))
theorem ok_is_label (T : TX K mg) : FnG P w K mg base 4 T.f_is_label T.fd_is_label ["table", "thing"] (spV ⟨K, P, w⟩ 2 m_is_label) := by
  refine fnv_by (k := 3) 2 2 [false, false] (m := m_is_label) (g := b_is_label) (ow := [false, false]) (owL := [false, false]) rfl T.F_is_label sc_is_label rfl rfl rfl fun cdv A outer s H hr hg => ?_
  have hu1 := hu_of hr
  have hu64 := hr.units
  have hu65 := Nat.lt_of_le_of_lt (Nat.add_le_add_left (by decide : 65 ≤ 16 * 3 + 200) _) (Nat.add_assoc _ _ _ ▸ hr.un)
  have hgd := hg
  exact (vs_one (v_ret [] (pv_and (PV.bor (pv_call (ok_are_parts T) (hr.mono (by decide)) hgd T.g_are_parts T.F_are_parts.kp T.b_are_parts (pvs_cons (pv_v 1) (pvs_cons pv_int pvs_nil)))) (pv_and (PV.bor (pv_call (ok_is_corner_of T) (hr.mono (by decide)) hgd T.g_is_corner_of T.F_is_corner_of.kp T.b_is_corner_of (pvs_cons (pv_ixA hu1 (pv_b 0) (PV.bor pv_int)) (pvs_cons (pv_sl sl_all (ok_sl _) (pv_b 1) pvo_n (pvo_s (PV.bor pv_int))) pvs_nil)))) (pv_one (pv_call (ok_is_below T) (hr.mono (by decide)) hgd T.g_is_below T.F_is_below.kp T.b_is_below (pvs_cons (pv_ixA hu1 (pv_b 1) (PV.bor pv_int)) (pvs_cons (pv_ixA hu1 (pv_b 0) (PV.bor pv_int)) pvs_nil))))))))
theorem ok_law_joins (T : TX K mg) : FnG P w K mg base 4 T.f_law_joins T.fd_law_joins ["_law_bag_here", "_law_size"] (spV ⟨K, P, w⟩ 2 m_law_joins) := by
  refine fnv_by (k := 3) 11 2 [false, false, false, false, false, false, false, false, false, false, false] (m := m_law_joins) (g := b_law_joins) (ow := [false, false, false, false, false, false, false, false, false, false, false]) (owL := [false, false, false, false, false, false, false, false, false, false, false]) rfl T.F_law_joins sc_law_joins rfl rfl rfl fun cdv A outer s H hr hg => ?_
  have hu1 := hu_of hr
  have hu64 := hr.units
  have hu65 := Nat.lt_of_le_of_lt (Nat.add_le_add_left (by decide : 65 ≤ 16 * 3 + 200) _) (Nat.add_assoc _ _ _ ▸ hr.un)
  have hgd := hg
  exact (vs_cons (ow1 := [false, false, false, true, false, false, false, false, false, false, false]) (v_parN (is := [2, 3]) sc_law_joins.nd (pvs_cons (pv_call (ok_law_take T) (hr.mono (by decide)) hgd T.g_law_take T.F_law_take.kp T.b_law_take (pvs_cons (pv_v 0) (pvs_cons pv_int pvs_nil))) (pvs_cons (pv_lst (pvs_cons (pv_tup (pvs_cons pv_int (pvs_cons pv_int pvs_nil))) pvs_nil)) pvs_nil)) (gs_cons sc_law_joins.nd (gs_cons sc_law_joins.nd gs_nil))) (vs_cons (ow1 := [false, false, false, true, false, false, false, false, false, false, false]) (v_for PassesOwn.never (vi_rng2 (PV.bor pv_int) (pv_b 1) T.z_range) (vg_n 4 sc_law_joins.nd) (vs_cons (ow1 := [false, false, false, true, false, true, false, false, false, false, false]) (v_setF 5 sc_law_joins.nd (pv_lst pvs_nil)) (vs_cons (ow1 := [false, false, false, true, false, true, false, false, false, false, false]) (v_forO 3 PassesOwn.never (vi_own 3 (List.mem_singleton.mpr rfl)) set_it (vg_t (vgs_cons (vg_n 6 sc_law_joins.nd) (vgs_cons (vg_n 7 sc_law_joins.nd) vgs_nil)) (hl := (tsl_cons (tsl_cons tsl_nil)))) (vs_one (v_ext 5 (PV.borF (pv_lc (own := [("_law_spot", 10)]) (us := []) sc_law_joins.nd (vi_lst (pv_tup (pvs_cons (pv_tup (pvs_cons (pv_bin op_addD ok_add (pv_b 6) (PV.bor pv_int)) (pvs_cons (pv_v 7) pvs_nil))) (pvs_cons (pv_tup (pvs_cons (pv_bin op_sub (ok_sub _) (pv_b 6) (PV.bor pv_int)) (pvs_cons (pv_v 7) pvs_nil))) (pvs_cons (pv_tup (pvs_cons (pv_v 6) (pvs_cons (pv_bin op_addD ok_add (pv_b 7) (PV.bor pv_int)) pvs_nil))) (pvs_cons (pv_tup (pvs_cons (pv_v 6) (pvs_cons (pv_bin op_sub (ok_sub _) (pv_b 7) (PV.bor pv_int)) pvs_nil))) pvs_nil)))))) (blkOk_by (N := N_law_joins) (sc := defScope s_law_joins) (by decide +kernel)) (fun _ _ _ _ _ => (vg_n 10 sc_law_joins.nd)) (fun _ _ _ _ _ => (vts_one (pt_notIn1 hu65 (pv_b 10) (pv_b 3)))) (fun _ _ _ _ _ => (pv_v 10))))))) (vs_freeze 5 (vs_one (v_app 3 (pv_call (ok_law_some T) (hr.mono (by decide)) hgd T.g_law_some T.F_law_some.kp T.b_law_some (pvs_cons (pv_v 0) (pvs_cons (pv_v 5) pvs_nil))))))))) (vs_freeze 3 (vs_cons (ow1 := [false, false, false, false, false, false, false, false, false, false, false]) (v_set 3 sc_law_joins.nd (pv_call (ok_law_mixed T) (hr.mono (by decide)) hgd T.g_law_mixed T.F_law_mixed.kp T.b_law_mixed (pvs_cons (pv_v 0) (pvs_cons (pv_v 3) pvs_nil)))) (vs_cons (ow1 := [false, false, false, false, false, false, false, false, true, true, false]) (v_par2 sc_law_joins.nd (pvs_cons (pv_bin op_rep (ok_rep _) (PV.borF (pv_lst (pvs_cons pv_non pvs_nil))) (pv_b 1)) (pvs_cons (pv_bin op_rep (ok_rep _) (PV.borF (pv_lst (pvs_cons pv_non pvs_nil))) (pv_b 1)) pvs_nil))) (vs_cons (ow1 := [false, false, false, false, false, false, false, false, true, true, false]) (v_for PassesOwn.never (vi_enum (pv_v 3) T.z_enumerate) (vg_t (vgs_cons (vg_n 4 sc_law_joins.nd) (vgs_cons (vg_t (vgs_cons (vg_n 6 sc_law_joins.nd) (vgs_cons (vg_n 7 sc_law_joins.nd) vgs_nil)) (hl := (tsl_cons (tsl_cons tsl_nil)))) vgs_nil)) (hl := (tsl_cons (tsl_cons tsl_nil)))) (vs_cons (ow1 := [false, false, false, false, false, false, false, false, true, true, false]) (v_if (PVW.pt (pt_and (pt_cmp1 op_lt (ok_lt _) (pv_b 2) (PV.bor pv_int) (nomark _)) (pt_and (pt_in1 hu65 (PV.bor (pv_tup (pvs_cons (pv_bin op_addD ok_add (pv_b 6) (PV.bor pv_int)) (pvs_cons (pv_v 7) pvs_nil)))) (pv_b 3)) (pt_and1 (pt_cmp1 op_gt (ok_gt _) (PV.bor (pv_call (ok_law_take T) (hr.mono (by decide)) hgd T.g_law_take T.F_law_take.kp T.b_law_take (pvs_cons (pv_v 0) (pvs_cons pv_int pvs_nil)))) (PV.bor pv_int) (nomark _)))))) (vs_one (v_seti 8 hu1 (pv_b 4) (pv_idx hu65 (pv_b 3) (PV.bor (pv_tup (pvs_cons (pv_bin op_addD ok_add (pv_b 6) (PV.bor pv_int)) (pvs_cons (pv_v 7) pvs_nil)))) ⟨rfl, rfl, rfl, rfl⟩))) vs_nil) (vs_one (v_if (PVW.pt (pt_and (pt_cmp1 op_lt (ok_lt _) (pv_b 2) (PV.bor pv_int) (nomark _)) (pt_and (pt_in1 hu65 (PV.bor (pv_tup (pvs_cons (pv_v 6) (pvs_cons (pv_bin op_addD ok_add (pv_b 7) (PV.bor pv_int)) pvs_nil)))) (pv_b 3)) (pt_and1 (pt_cmp1 op_gt (ok_gt _) (PV.bor (pv_call (ok_law_take T) (hr.mono (by decide)) hgd T.g_law_take T.F_law_take.kp T.b_law_take (pvs_cons (pv_v 0) (pvs_cons pv_int pvs_nil)))) (PV.bor pv_int) (nomark _)))))) (vs_one (v_seti 9 hu1 (pv_b 4) (pv_idx hu65 (pv_b 3) (PV.bor (pv_tup (pvs_cons (pv_v 6) (pvs_cons (pv_bin op_addD ok_add (pv_b 7) (PV.bor pv_int)) pvs_nil)))) ⟨rfl, rfl, rfl, rfl⟩))) vs_nil)))) (vs_freeze 8 (vs_freeze 9 (vs_cons (ow1 := [false, false, false, false, false, false, false, false, false, false, false]) (v_if (pt_cmp1 op_gt (ok_gt _) (pv_b 2) (PV.bor pv_int) (nomark _)) (vs_one (v_par2 sc_law_joins.nd (pvs_cons (pv_call (ok_law_gated T) (hr.mono (by decide)) hgd T.g_law_gated T.F_law_gated.kp T.b_law_gated (pvs_cons (pv_v 0) (pvs_cons (pv_v 8) pvs_nil))) (pvs_cons (pv_call (ok_law_gated T) (hr.mono (by decide)) hgd T.g_law_gated T.F_law_gated.kp T.b_law_gated (pvs_cons (pv_v 0) (pvs_cons (pv_v 9) pvs_nil))) pvs_nil)))) vs_nil) (vs_one (v_ret [] (pv_tup (pvs_cons (pv_callT1 call_tupNA (ok_tupN _) T.z_tuple (by decide +kernel) (pv_b 8)) (pvs_cons (pv_callT1 call_tupNA (ok_tupN _) T.z_tuple (by decide +kernel) (pv_b 9)) pvs_nil))))))))))))))
theorem ok_law_dials (T : TX K mg) : FnG P w K mg base 4 T.f_law_dials T.fd_law_dials ["_law_bag_here", "_law_edges_here", "_law_marks"] (spV ⟨K, P, w⟩ 3 m_law_dials) := by
  refine fnv_by (k := 3) 6 3 [false, false, false, false, false, false] (m := m_law_dials) (g := b_law_dials) (ow := [false, false, false, false, false, false]) (owL := [false, false, false, false, false, false]) rfl T.F_law_dials sc_law_dials rfl rfl rfl fun cdv A outer s H hr hg => ?_
  have hu1 := hu_of hr
  have hu64 := hr.units
  have hu65 := Nat.lt_of_le_of_lt (Nat.add_le_add_left (by decide : 65 ≤ 16 * 3 + 200) _) (Nat.add_assoc _ _ _ ▸ hr.un)
  have hgd := hg
  exact (vs_cons (ow1 := [false, false, false, false, false, false]) (v_if (pt_cmp1 (op_eqB hu64) (ok_eq _) (pv_b 2) (PV.bor pv_int) (nomark _)) (vs_one (v_ret [] (pv_tupN pvs_nil))) vs_nil) (vs_cons (ow1 := [false, false, false, false, true, false]) (v_par2 sc_law_dials.nd (pvs_cons (pv_cmp (op_eqB hu64) (CmpOk.op (ok_eq _)) (PV.bor (pv_call (ok_law_take T) (hr.mono (by decide)) hgd T.g_law_take T.F_law_take.kp T.b_law_take (pvs_cons (pv_v 0) (pvs_cons pv_int pvs_nil)))) (PV.bor pv_int) (nomark _)) (pvs_cons (pv_lst pvs_nil) pvs_nil))) (vs_cons (ow1 := [false, false, false, false, true, false]) (v_for PassesOwn.never (vi_lst (pv_sl sl_all (ok_sl _) (PV.bor (pv_call (ok_law_mixed T) (hr.mono (by decide)) hgd T.g_law_mixed T.F_law_mixed.kp T.b_law_mixed (pvs_cons (pv_v 0) (pvs_cons (pv_v 1) pvs_nil)))) pvo_n (pvo_s (PV.bor (pv_call (ok_law_some T) (hr.mono (by decide)) hgd T.g_law_some T.F_law_some.kp T.b_law_some (pvs_cons (pv_v 0) (pvs_cons (PV.settle (pv_lst (pvs_cons pv_int (pvs_cons pv_int (pvs_cons pv_int (pvs_cons pv_int (pvs_cons (pv_call1 call_lenA (ok_len _) T.z_len (by decide +kernel) (pv_b 1)) pvs_nil))))))) pvs_nil))))))) (vg_n 5 sc_law_dials.nd) (vs_one (v_app 4 (pv_tup (pvs_cons (pv_v 5) (pvs_cons (pv_call (ok_law_permutation T) (hr.mono (by decide)) hgd T.g_law_permutation T.F_law_permutation.kp T.b_law_permutation (pvs_cons (pv_v 0) (pvs_cons (pv_v 2) (pvs_cons (pv_v 3) pvs_nil)))) pvs_nil)))))) (vs_freeze 4 (vs_one (v_ret [] (pv_callT1 call_tupNA (ok_tupN _) T.z_tuple (by decide +kernel) (PV.borF (pv_call1 (cr_sortD hu64) (ok_sortD _) T.z_sorted (by decide +kernel) (pv_b 4))))))))))
theorem ok_law_table (T : TX K mg) : FnG P w K mg base 5 T.f_law_table T.fd_law_table ["_law_bag_here", "_law_most"] (spV ⟨K, P, w⟩ 2 m_law_table) := by
  refine fnv_by (k := 4) 10 2 [false, false, false, false, false, false, false, false, false, false] (m := m_law_table) (g := b_law_table) (ow := [false, false, false, false, false, false, false, false, false, false]) (owL := [false, false, false, false, false, false, false, false, false, false]) rfl T.F_law_table sc_law_table rfl rfl rfl fun cdv A outer s H hr hg => ?_
  have hu1 := hu_of hr
  have hu64 := hr.units
  have hu65 := Nat.lt_of_le_of_lt (Nat.add_le_add_left (by decide : 65 ≤ 16 * 4 + 200) _) (Nat.add_assoc _ _ _ ▸ hr.un)
  have hgd := hg
  exact (vs_cons (ow1 := [false, false, false, false, false, false, false, false, false, false]) (v_par2 sc_law_table.nd (pvs_cons (pv_bin op_addD ok_add (PV.bor pv_int) (PV.bor (pv_call (ok_law_take T) (hr.mono (by decide)) hgd T.g_law_take T.F_law_take.kp T.b_law_take (pvs_cons (pv_v 0) (pvs_cons (pv_v 1) pvs_nil))))) (pvs_cons (pv_call (ok_law_some T) (hr.mono (by decide)) hgd T.g_law_some T.F_law_some.kp T.b_law_some (pvs_cons (pv_v 0) (pvs_cons (PV.settle (pv_lst (pvs_cons pv_int (pvs_cons pv_int (pvs_cons pv_int (pvs_cons pv_int (pvs_cons pv_int (pvs_cons pv_int (pvs_cons pv_int pvs_nil))))))))) pvs_nil))) pvs_nil))) (vs_cons (ow1 := [false, false, false, false, false, false, false, false, false, false]) (v_unp (pv_call (ok_law_joins T) (hr.mono (by decide)) hgd T.g_law_joins T.F_law_joins.kp T.b_law_joins (pvs_cons (pv_v 0) (pvs_cons (pv_v 2) pvs_nil))) (vg_t (vgs_cons (vg_n 4 sc_law_table.nd) (vgs_cons (vg_n 5 sc_law_table.nd) vgs_nil)) (hl := (tsl_cons (tsl_cons tsl_nil))))) (vs_cons (ow1 := [false, false, false, false, false, false, false, false, false, false]) (v_set 6 sc_law_table.nd (pv_tup (pvs_cons (pv_v 2) (pvs_cons (pv_v 3) (pvs_cons (pv_v 4) (pvs_cons (pv_v 5) (pvs_cons (pv_call (ok_law_dials T) (hr.mono (by decide)) hgd T.g_law_dials T.F_law_dials.kp T.b_law_dials (pvs_cons (pv_v 0) (pvs_cons (pv_call (ok_law_edges_of T) (hr.mono (by decide)) hgd T.g_law_edges_of T.F_law_edges_of.kp T.b_law_edges_of (pvs_cons (pv_v 4) (pvs_cons (pv_v 5) pvs_nil))) (pvs_cons (pv_v 3) pvs_nil)))) (pvs_cons (pv_tupN pvs_nil) pvs_nil)))))))) (vs_cons (ow1 := [false, false, false, false, false, false, false, false, false, false]) (v_set 7 sc_law_table.nd (pv_call (ok_law_points T) (hr.mono (by decide)) hgd T.g_law_points T.F_law_points.kp T.b_law_points (pvs_cons (pv_v 6) pvs_nil))) (vs_cons (ow1 := [false, false, false, false, false, false, false, false, false, false]) (v_set 8 sc_law_table.nd (pv_sl sl_all (ok_sl _) (PV.bor (pv_call (ok_law_mixed T) (hr.mono (by decide)) hgd T.g_law_mixed T.F_law_mixed.kp T.b_law_mixed (pvs_cons (pv_v 0) (pvs_cons (pv_v 7) pvs_nil)))) pvo_n (pvo_s (PV.bor (pv_call (ok_law_some T) (hr.mono (by decide)) hgd T.g_law_some T.F_law_some.kp T.b_law_some (pvs_cons (pv_v 0) (pvs_cons (PV.settle (pv_lst (pvs_cons pv_int (pvs_cons pv_int (pvs_cons pv_int (pvs_cons pv_int (pvs_cons (pv_call1 call_lenA (ok_len _) T.z_len (by decide +kernel) (pv_b 7)) pvs_nil))))))) pvs_nil))))))) (vs_one (v_ret [] (pv_bin op_addD ok_add (PV.bor (pv_sl sl_all (ok_sl _) (pv_b 6) pvo_n (pvo_s (PV.bor pv_int)))) (PV.bor (pv_tup (pvs_cons (pv_callT1 call_tupNA (ok_tupN _) T.z_tuple (by decide +kernel) (PV.borF (pv_call1 (cr_sortD hu64) (ok_sortD _) T.z_sorted (by decide +kernel) (PV.borF (pv_lc (own := [("_law_point", 9)]) (us := []) sc_law_table.nd (vi_lst (pv_v 8)) (blkOk_by (N := N_law_table) (sc := defScope s_law_table) (by decide +kernel)) (fun _ _ _ _ _ => (vg_n 9 sc_law_table.nd)) (fun _ _ _ _ _ => vts_nil) (fun _ _ _ _ _ => (pv_tup (pvs_cons (pv_ixA hu1 (pv_b 9) (PV.bor pv_int)) (pvs_cons (pv_call (ok_law_name T) (hr.mono (by decide)) hgd T.g_law_name T.F_law_name.kp T.b_law_name (pvs_cons (pv_v 0) pvs_nil)) pvs_nil))))))))) pvs_nil)))))))))))
theorem ok_law_bent_z (T : TX K mg) : FnG P w K mg base 3 T.f_law_bent T.fd_law_bent ["_law_bag_here", "_law_thing", "_law_deep"] (spV ⟨K, P, w⟩ 3 (fun _ _ => none)) := fng_none
theorem ok_law_bent_0 (T : TX K mg) : FnG P w K mg base 4 T.f_law_bent T.fd_law_bent ["_law_bag_here", "_law_thing", "_law_deep"] (spV ⟨K, P, w⟩ 3 m_law_bent_0) := by
  refine fnv_by (k := 3) 5 3 [false, false, false, false, false] (m := m_law_bent_0) (g := b_law_bent_0) (ow := [false, false, false, false, false]) (owL := [false, false, false, false, false]) rfl T.F_law_bent sc_law_bent rfl rfl rfl fun cdv A outer s H hr hg => ?_
  have hu1 := hu_of hr
  have hu64 := hr.units
  have hu65 := Nat.lt_of_le_of_lt (Nat.add_le_add_left (by decide : 65 ≤ 16 * 3 + 200) _) (Nat.add_assoc _ _ _ ▸ hr.un)
  have hgd := hg
  exact (vs_cons (ow1 := [false, false, false, false, false]) (v_if (PVW.pt (pt_and (pt_v (PV.bor (pv_inst T.z_isinstance T.z_str rfl (pv_b 1)))) (pt_and1 (pt_cmp1 op_gt (ok_gt _) (PV.bor (pv_call (ok_law_take T) (hr.mono (by decide)) hgd T.g_law_take T.F_law_take.kp T.b_law_take (pvs_cons (pv_v 0) (pvs_cons pv_int pvs_nil)))) (PV.bor pv_int) (nomark _))))) (vs_one (v_ret [] (pv_call (ok_law_some T) (hr.mono (by decide)) hgd T.g_law_some T.F_law_some.kp T.b_law_some (pvs_cons (pv_v 0) (pvs_cons (PV.settle (pv_lst (pvs_cons (pv_bin op_addD ok_add (pv_b 1) (PV.bor pv_str)) (pvs_cons (pv_sl sl_all (ok_sl _) (pv_b 1) (pvo_s (PV.bor pv_int)) pvo_n) (pvs_cons (pv_bin op_addD ok_add (pv_b 1) (PV.bor pv_str)) (pvs_cons (pv_bin op_addD ok_add (pv_b 1) (PV.bor pv_str)) (pvs_cons (pv_upper (pv_b 1)) (pvs_cons (pv_bin op_mulD (ok_mul _) (pv_b 1) (PV.bor pv_int)) (pvs_cons pv_str (pvs_cons pv_str (pvs_cons pv_str (pvs_cons pv_str pvs_nil)))))))))))) pvs_nil))))) vs_nil) (vs_cons (ow1 := [false, false, false, false, false]) (v_if (PVW.pt (pt_and (pt_v (PV.bor (pv_call (ok_law_is_int T) (hr.mono (by decide)) hgd T.g_law_is_int T.F_law_is_int.kp T.b_law_is_int (pvs_cons (pv_v 1) pvs_nil)))) (pt_and1 (pt_cmp1 op_gt (ok_gt _) (PV.bor (pv_call (ok_law_take T) (hr.mono (by decide)) hgd T.g_law_take T.F_law_take.kp T.b_law_take (pvs_cons (pv_v 0) (pvs_cons pv_int pvs_nil)))) (PV.bor pv_int) (nomark _))))) (vs_one (v_ret [] (pv_call (ok_law_some T) (hr.mono (by decide)) hgd T.g_law_some T.F_law_some.kp T.b_law_some (pvs_cons (pv_v 0) (pvs_cons (PV.settle (pv_lst (pvs_cons (pv_bin op_addD ok_add (pv_b 1) (PV.bor pv_int)) (pvs_cons (pv_bin op_sub (ok_sub _) (pv_b 1) (PV.bor pv_int)) (pvs_cons (pv_un un_neg (ok_neg _) (pv_b 1)) (pvs_cons pv_non (pvs_cons (pv_cmp (op_eqB hu64) (CmpOk.op (ok_eq _)) (pv_b 1) (PV.bor pv_int) (nomark _)) (pvs_cons (pv_strI T.z_str (pv_b 1)) (pvs_cons pv_int (pvs_cons (pv_bin op_mulD (ok_mul _) (PV.bor pv_int) (pv_b 1)) pvs_nil)))))))))) pvs_nil))))) vs_nil) (vs_cons (ow1 := [false, false, false, false, false]) (v_if (PVW.pt (pt_or (pt_not1 (pt_v (PV.bor (pv_inst T.z_isinstance T.z_tuple rfl (pv_b 1))))) (pt_or (pt_cmp1 (op_eqB hu64) (ok_eq _) (pv_b 1) (PV.bor (pv_tupN pvs_nil)) (nomark _)) (pt_or1 (pt_cmp1 (op_eqB hu64) (ok_eq _) (pv_b 2) (PV.bor pv_int) (nomark _)))))) (vs_one (v_ret [] (pv_call (ok_law_odd T) (hr.mono (by decide)) hgd T.g_law_odd T.F_law_odd.kp T.b_law_odd (pvs_cons (pv_v 0) pvs_nil)))) vs_nil) (vs_cons (ow1 := [false, false, false, false, false]) (v_par2 sc_law_bent.nd (pvs_cons (pv_call (ok_law_take T) (hr.mono (by decide)) hgd T.g_law_take T.F_law_take.kp T.b_law_take (pvs_cons (pv_v 0) (pvs_cons pv_int pvs_nil))) (pvs_cons (pv_call (ok_law_take T) (hr.mono (by decide)) hgd T.g_law_take T.F_law_take.kp T.b_law_take (pvs_cons (pv_v 0) (pvs_cons (pv_call1 call_lenA (ok_len _) T.z_len (by decide +kernel) (pv_b 1)) pvs_nil))) pvs_nil))) (vs_cons (ow1 := [false, false, false, false, false]) (v_if (pt_cmp1 (op_eqB hu64) (ok_eq _) (pv_b 3) (PV.bor pv_int) (nomark _)) (vs_one (v_ret [] (PV.settle (pv_callT1 call_list_of (ok_list _) T.z_list (by decide +kernel) (pv_b 1))))) vs_nil) (vs_cons (ow1 := [false, false, false, false, false]) (v_if (pt_cmp1 (op_eqB hu64) (ok_eq _) (pv_b 3) (PV.bor pv_int) (nomark _)) (vs_one (v_ret [] (pv_bin op_addD ok_add (PV.bor (pv_sl sl_all (ok_sl _) (pv_b 1) pvo_n (pvo_s (pv_b 4)))) (PV.bor (pv_sl sl_all (ok_sl _) (pv_b 1) (pvo_s (PV.bor (pv_bin op_addD ok_add (pv_b 4) (PV.bor pv_int)))) pvo_n))))) vs_nil) (vs_cons (ow1 := [false, false, false, false, false]) (v_if (pt_cmp1 (op_eqB hu64) (ok_eq _) (pv_b 3) (PV.bor pv_int) (nomark _)) (vs_one (v_ret [] (pv_bin op_addD ok_add (PV.bor (pv_bin op_addD ok_add (PV.bor (pv_sl sl_all (ok_sl _) (pv_b 1) pvo_n (pvo_s (pv_b 4)))) (PV.bor (pv_tup (pvs_cons (pv_call (ok_law_odd T) (hr.mono (by decide)) hgd T.g_law_odd T.F_law_odd.kp T.b_law_odd (pvs_cons (pv_v 0) pvs_nil)) pvs_nil))))) (PV.bor (pv_sl sl_all (ok_sl _) (pv_b 1) (pvo_s (pv_b 4)) pvo_n))))) vs_nil) (vs_cons (ow1 := [false, false, false, false, false]) (v_if (pt_cmp1 (op_eqB hu64) (ok_eq _) (pv_b 3) (PV.bor pv_int) (nomark _)) (vs_one (v_ret [] (pv_rev2 (pv_b 1)))) vs_nil) (vs_cons (ow1 := [false, false, false, false, false]) (v_if (pt_cmp1 (op_eqB hu64) (ok_eq _) (pv_b 3) (PV.bor pv_int) (nomark _)) (vs_one (v_ret [] (pv_bin op_addD ok_add (PV.bor (pv_bin op_addD ok_add (PV.bor (pv_sl sl_all (ok_sl _) (pv_b 1) pvo_n (pvo_s (pv_b 4)))) (PV.bor (pv_sl sl_all (ok_sl _) (pv_b 1) (pvo_s (pv_b 4)) (pvo_s (PV.bor (pv_bin op_addD ok_add (pv_b 4) (PV.bor pv_int)))))))) (PV.bor (pv_sl sl_all (ok_sl _) (pv_b 1) (pvo_s (pv_b 4)) pvo_n))))) vs_nil) (vs_one (v_ret [] (pv_bin op_addD ok_add (PV.bor (pv_bin op_addD ok_add (PV.bor (pv_sl sl_all (ok_sl _) (pv_b 1) pvo_n (pvo_s (pv_b 4)))) (PV.bor (pv_tup (pvs_cons (pv_call (ok_law_bent_z T) (hr.mono (by decide)) hgd T.g_law_bent T.F_law_bent.kp T.b_law_bent (pvs_cons (pv_v 0) (pvs_cons (pv_ixA hu1 (pv_b 1) (pv_b 4)) (pvs_cons (pv_bin op_sub (ok_sub _) (pv_b 2) (PV.bor pv_int)) pvs_nil)))) pvs_nil))))) (PV.bor (pv_sl sl_all (ok_sl _) (pv_b 1) (pvo_s (PV.bor (pv_bin op_addD ok_add (pv_b 4) (PV.bor pv_int)))) pvo_n))))))))))))))
theorem ok_law_bent_1 (T : TX K mg) : FnG P w K mg base 5 T.f_law_bent T.fd_law_bent ["_law_bag_here", "_law_thing", "_law_deep"] (spV ⟨K, P, w⟩ 3 m_law_bent_1) := by
  refine fnv_by (k := 4) 5 3 [false, false, false, false, false] (m := m_law_bent_1) (g := b_law_bent_1) (ow := [false, false, false, false, false]) (owL := [false, false, false, false, false]) rfl T.F_law_bent sc_law_bent rfl rfl rfl fun cdv A outer s H hr hg => ?_
  have hu1 := hu_of hr
  have hu64 := hr.units
  have hu65 := Nat.lt_of_le_of_lt (Nat.add_le_add_left (by decide : 65 ≤ 16 * 4 + 200) _) (Nat.add_assoc _ _ _ ▸ hr.un)
  have hgd := hg
  exact (vs_cons (ow1 := [false, false, false, false, false]) (v_if (PVW.pt (pt_and (pt_v (PV.bor (pv_inst T.z_isinstance T.z_str rfl (pv_b 1)))) (pt_and1 (pt_cmp1 op_gt (ok_gt _) (PV.bor (pv_call (ok_law_take T) (hr.mono (by decide)) hgd T.g_law_take T.F_law_take.kp T.b_law_take (pvs_cons (pv_v 0) (pvs_cons pv_int pvs_nil)))) (PV.bor pv_int) (nomark _))))) (vs_one (v_ret [] (pv_call (ok_law_some T) (hr.mono (by decide)) hgd T.g_law_some T.F_law_some.kp T.b_law_some (pvs_cons (pv_v 0) (pvs_cons (PV.settle (pv_lst (pvs_cons (pv_bin op_addD ok_add (pv_b 1) (PV.bor pv_str)) (pvs_cons (pv_sl sl_all (ok_sl _) (pv_b 1) (pvo_s (PV.bor pv_int)) pvo_n) (pvs_cons (pv_bin op_addD ok_add (pv_b 1) (PV.bor pv_str)) (pvs_cons (pv_bin op_addD ok_add (pv_b 1) (PV.bor pv_str)) (pvs_cons (pv_upper (pv_b 1)) (pvs_cons (pv_bin op_mulD (ok_mul _) (pv_b 1) (PV.bor pv_int)) (pvs_cons pv_str (pvs_cons pv_str (pvs_cons pv_str (pvs_cons pv_str pvs_nil)))))))))))) pvs_nil))))) vs_nil) (vs_cons (ow1 := [false, false, false, false, false]) (v_if (PVW.pt (pt_and (pt_v (PV.bor (pv_call (ok_law_is_int T) (hr.mono (by decide)) hgd T.g_law_is_int T.F_law_is_int.kp T.b_law_is_int (pvs_cons (pv_v 1) pvs_nil)))) (pt_and1 (pt_cmp1 op_gt (ok_gt _) (PV.bor (pv_call (ok_law_take T) (hr.mono (by decide)) hgd T.g_law_take T.F_law_take.kp T.b_law_take (pvs_cons (pv_v 0) (pvs_cons pv_int pvs_nil)))) (PV.bor pv_int) (nomark _))))) (vs_one (v_ret [] (pv_call (ok_law_some T) (hr.mono (by decide)) hgd T.g_law_some T.F_law_some.kp T.b_law_some (pvs_cons (pv_v 0) (pvs_cons (PV.settle (pv_lst (pvs_cons (pv_bin op_addD ok_add (pv_b 1) (PV.bor pv_int)) (pvs_cons (pv_bin op_sub (ok_sub _) (pv_b 1) (PV.bor pv_int)) (pvs_cons (pv_un un_neg (ok_neg _) (pv_b 1)) (pvs_cons pv_non (pvs_cons (pv_cmp (op_eqB hu64) (CmpOk.op (ok_eq _)) (pv_b 1) (PV.bor pv_int) (nomark _)) (pvs_cons (pv_strI T.z_str (pv_b 1)) (pvs_cons pv_int (pvs_cons (pv_bin op_mulD (ok_mul _) (PV.bor pv_int) (pv_b 1)) pvs_nil)))))))))) pvs_nil))))) vs_nil) (vs_cons (ow1 := [false, false, false, false, false]) (v_if (PVW.pt (pt_or (pt_not1 (pt_v (PV.bor (pv_inst T.z_isinstance T.z_tuple rfl (pv_b 1))))) (pt_or (pt_cmp1 (op_eqB hu64) (ok_eq _) (pv_b 1) (PV.bor (pv_tupN pvs_nil)) (nomark _)) (pt_or1 (pt_cmp1 (op_eqB hu64) (ok_eq _) (pv_b 2) (PV.bor pv_int) (nomark _)))))) (vs_one (v_ret [] (pv_call (ok_law_odd T) (hr.mono (by decide)) hgd T.g_law_odd T.F_law_odd.kp T.b_law_odd (pvs_cons (pv_v 0) pvs_nil)))) vs_nil) (vs_cons (ow1 := [false, false, false, false, false]) (v_par2 sc_law_bent.nd (pvs_cons (pv_call (ok_law_take T) (hr.mono (by decide)) hgd T.g_law_take T.F_law_take.kp T.b_law_take (pvs_cons (pv_v 0) (pvs_cons pv_int pvs_nil))) (pvs_cons (pv_call (ok_law_take T) (hr.mono (by decide)) hgd T.g_law_take T.F_law_take.kp T.b_law_take (pvs_cons (pv_v 0) (pvs_cons (pv_call1 call_lenA (ok_len _) T.z_len (by decide +kernel) (pv_b 1)) pvs_nil))) pvs_nil))) (vs_cons (ow1 := [false, false, false, false, false]) (v_if (pt_cmp1 (op_eqB hu64) (ok_eq _) (pv_b 3) (PV.bor pv_int) (nomark _)) (vs_one (v_ret [] (PV.settle (pv_callT1 call_list_of (ok_list _) T.z_list (by decide +kernel) (pv_b 1))))) vs_nil) (vs_cons (ow1 := [false, false, false, false, false]) (v_if (pt_cmp1 (op_eqB hu64) (ok_eq _) (pv_b 3) (PV.bor pv_int) (nomark _)) (vs_one (v_ret [] (pv_bin op_addD ok_add (PV.bor (pv_sl sl_all (ok_sl _) (pv_b 1) pvo_n (pvo_s (pv_b 4)))) (PV.bor (pv_sl sl_all (ok_sl _) (pv_b 1) (pvo_s (PV.bor (pv_bin op_addD ok_add (pv_b 4) (PV.bor pv_int)))) pvo_n))))) vs_nil) (vs_cons (ow1 := [false, false, false, false, false]) (v_if (pt_cmp1 (op_eqB hu64) (ok_eq _) (pv_b 3) (PV.bor pv_int) (nomark _)) (vs_one (v_ret [] (pv_bin op_addD ok_add (PV.bor (pv_bin op_addD ok_add (PV.bor (pv_sl sl_all (ok_sl _) (pv_b 1) pvo_n (pvo_s (pv_b 4)))) (PV.bor (pv_tup (pvs_cons (pv_call (ok_law_odd T) (hr.mono (by decide)) hgd T.g_law_odd T.F_law_odd.kp T.b_law_odd (pvs_cons (pv_v 0) pvs_nil)) pvs_nil))))) (PV.bor (pv_sl sl_all (ok_sl _) (pv_b 1) (pvo_s (pv_b 4)) pvo_n))))) vs_nil) (vs_cons (ow1 := [false, false, false, false, false]) (v_if (pt_cmp1 (op_eqB hu64) (ok_eq _) (pv_b 3) (PV.bor pv_int) (nomark _)) (vs_one (v_ret [] (pv_rev2 (pv_b 1)))) vs_nil) (vs_cons (ow1 := [false, false, false, false, false]) (v_if (pt_cmp1 (op_eqB hu64) (ok_eq _) (pv_b 3) (PV.bor pv_int) (nomark _)) (vs_one (v_ret [] (pv_bin op_addD ok_add (PV.bor (pv_bin op_addD ok_add (PV.bor (pv_sl sl_all (ok_sl _) (pv_b 1) pvo_n (pvo_s (pv_b 4)))) (PV.bor (pv_sl sl_all (ok_sl _) (pv_b 1) (pvo_s (pv_b 4)) (pvo_s (PV.bor (pv_bin op_addD ok_add (pv_b 4) (PV.bor pv_int)))))))) (PV.bor (pv_sl sl_all (ok_sl _) (pv_b 1) (pvo_s (pv_b 4)) pvo_n))))) vs_nil) (vs_one (v_ret [] (pv_bin op_addD ok_add (PV.bor (pv_bin op_addD ok_add (PV.bor (pv_sl sl_all (ok_sl _) (pv_b 1) pvo_n (pvo_s (pv_b 4)))) (PV.bor (pv_tup (pvs_cons (pv_call (ok_law_bent_0 T) (hr.mono (by decide)) hgd T.g_law_bent T.F_law_bent.kp T.b_law_bent (pvs_cons (pv_v 0) (pvs_cons (pv_ixA hu1 (pv_b 1) (pv_b 4)) (pvs_cons (pv_bin op_sub (ok_sub _) (pv_b 2) (PV.bor pv_int)) pvs_nil)))) pvs_nil))))) (PV.bor (pv_sl sl_all (ok_sl _) (pv_b 1) (pvo_s (PV.bor (pv_bin op_addD ok_add (pv_b 4) (PV.bor pv_int)))) pvo_n))))))))))))))
theorem ok_law_bent (T : TX K mg) : FnG P w K mg base 5 T.f_law_bent T.fd_law_bent ["_law_bag_here", "_law_thing", "_law_deep"] (spV ⟨K, P, w⟩ 3 m_law_bent) := ok_law_bent_1 T
theorem ok_law (T : TX K mg) (hm : ∀ ns : List Int, ns.length ≤ 63 → ∃ B, b_law (none :: some .bag :: List.replicate 14 none) (bag0 ns) = some (.rt (.bl true), B)) : FnG P w K mg base 6 T.f_law T.fd_law ["_law_script"] (spLaw K) := by
  refine fn_ofG T.F_law sc_law (fun vs H Q E h => ?_) (fun cdv A outer s H vs Q hr hg h => ?_)
  · obtain ⟨a, ns, rfl, _⟩ := h
    rfl
  · obtain ⟨a, ns, rfl, hl, hS, q⟩ := h
    obtain ⟨B, hB⟩ := hm ns hl
    have hu1 := hu_of hr
    have hu64 := hr.units
    have hu65 := Nat.lt_of_le_of_lt (Nat.add_le_add_left (by decide : 65 ≤ 16 * 5 + 200) _) (Nat.add_assoc _ _ _ ▸ hr.un)
    have hgd := hg
    have rest : PVSs [false, false, false, false, false, false, false, false, false, false, false, false, false, false, false, false] [false, false, false, false, false, false, false, false, false, false, false, false, false, false, false, false] [false, false, false, false, false, false, false, false, false, false, false, false, false, false, false, false] [] (cxOf CX0 P w K mg base N_law "law" (defScope s_law) T.f_law cdv A outer s H E0).nox ((defBody s_law).drop 1) b_law := (vs_cons (ow1 := [false, false, false, false, false, false, false, false, false, false, false, false, false, false, false, false]) (v_for PassesOwn.never (vi_rng1 (PV.bor pv_int) T.z_range) (vg_n 2 sc_law.nd) (vs_cons (ow1 := [false, false, false, false, false, false, false, false, false, false, false, false, false, false, false, false]) (v_set 3 sc_law.nd (pv_call (ok_law_table T) (hr.mono (by decide)) hgd T.g_law_table T.F_law_table.kp T.b_law_table (pvs_cons (pv_v 1) (pvs_cons pv_int pvs_nil)))) (vs_cons (ow1 := [false, false, false, false, false, false, false, false, false, false, false, false, false, false, false, false]) (v_parN (is := [4, 5, 6, 7]) sc_law.nd (pvs_cons (pv_call1 (call_reprK hgd hu64) ok_reprK T.z_repr (by decide +kernel) (pv_b 3)) (pvs_cons (pv_call (ok_law_edges T) (hr.mono (by decide)) hgd T.g_law_edges T.F_law_edges.kp T.b_law_edges (pvs_cons (pv_v 3) pvs_nil)) (pvs_cons (pv_call (ok_law_corners T) (hr.mono (by decide)) hgd T.g_law_corners T.F_law_corners.kp T.b_law_corners (pvs_cons (pv_v 3) pvs_nil)) (pvs_cons (pv_call (ok_law_labels T) (hr.mono (by decide)) hgd T.g_law_labels T.F_law_labels.kp T.b_law_labels (pvs_cons (pv_v 3) pvs_nil)) pvs_nil)))) (gs_cons sc_law.nd (gs_cons sc_law.nd (gs_cons sc_law.nd (gs_cons sc_law.nd gs_nil))))) (vs_cons (ow1 := [false, false, false, false, false, false, false, false, false, false, false, false, false, false, false, false]) (v_parN (is := [8, 9]) sc_law.nd (pvs_cons (pv_ixA hu1 (pv_b 3) (PV.bor pv_int)) (pvs_cons (pv_ixA hu1 (pv_b 3) (PV.bor pv_int)) pvs_nil)) (gs_cons sc_law.nd (gs_cons sc_law.nd gs_nil))) (vs_cons (ow1 := [false, false, false, false, false, false, false, false, false, false, false, false, false, false, false, false]) (v_set 10 sc_law.nd (pv_bin op_addD ok_add (PV.bor (pv_bin op_addD ok_add (PV.bor (pv_sl sl_all (ok_sl _) (PV.bor (pv_call (ok_law_mixed T) (hr.mono (by decide)) hgd T.g_law_mixed T.F_law_mixed.kp T.b_law_mixed (pvs_cons (pv_v 1) (pvs_cons (pv_v 5) pvs_nil)))) pvo_n (pvo_s (PV.bor pv_int)))) (PV.bor (pv_sl sl_all (ok_sl _) (PV.bor (pv_call (ok_law_mixed T) (hr.mono (by decide)) hgd T.g_law_mixed T.F_law_mixed.kp T.b_law_mixed (pvs_cons (pv_v 1) (pvs_cons (pv_v 6) pvs_nil)))) pvo_n (pvo_s (PV.bor pv_int)))))) (PV.bor (pv_sl sl_all (ok_sl _) (PV.bor (pv_call (ok_law_mixed T) (hr.mono (by decide)) hgd T.g_law_mixed T.F_law_mixed.kp T.b_law_mixed (pvs_cons (pv_v 1) (pvs_cons (pv_v 7) pvs_nil)))) pvo_n (pvo_s (PV.bor pv_int)))))) (vs_cons (ow1 := [false, false, false, false, false, false, false, false, false, false, false, false, false, false, false, false]) (v_set 10 sc_law.nd (pv_bin op_addD ok_add (pv_b 10) (PV.borF (pv_lc (own := [("_law_word", 14)]) (us := []) sc_law.nd (vi_lst (pv_tup (pvs_cons pv_str (pvs_cons pv_str (pvs_cons pv_str (pvs_cons pv_str (pvs_cons pv_str pvs_nil))))))) (blkOk_by (N := N_law) (sc := defScope s_law) (by decide +kernel)) (fun _ _ _ _ _ => (vg_n 14 sc_law.nd)) (fun _ _ _ _ _ => vts_nil) (fun _ _ _ _ _ => (pv_tup (pvs_cons (pv_v 14) (pvs_cons (pv_call (ok_law_take T) (hr.mono (by decide)) hgd T.g_law_take T.F_law_take.kp T.b_law_take (pvs_cons (pv_v 1) (pvs_cons (pv_bin op_addD ok_add (pv_b 8) (PV.bor pv_int)) pvs_nil))) pvs_nil)))))))) (vs_cons (ow1 := [false, false, false, false, false, false, false, false, false, false, false, false, false, false, false, false]) (v_set 10 sc_law.nd (pv_bin op_addD ok_add (pv_b 10) (PV.borF (pv_lst (pvs_cons (pv_tup (pvs_cons (pv_v 8) (pvs_cons pv_int (pvs_cons pv_int pvs_nil)))) (pvs_cons (pv_tup (pvs_cons pv_int (pvs_cons pv_int (pvs_cons pv_int pvs_nil)))) (pvs_cons (pv_tup (pvs_cons pv_int (pvs_cons pv_int (pvs_cons pv_int (pvs_cons (pv_v 9) pvs_nil))))) (pvs_cons (pv_tup (pvs_cons pv_int (pvs_cons pv_bl (pvs_cons pv_int (pvs_cons pv_int pvs_nil))))) (pvs_cons (pv_tup (pvs_cons pv_bl (pvs_cons pv_int (pvs_cons pv_int pvs_nil)))) (pvs_cons (pv_tup (pvs_cons pv_int (pvs_cons pv_int (pvs_cons (pv_un un_neg (ok_neg _) (PV.bor pv_int)) pvs_nil)))) (pvs_cons (PV.settle (pv_lst (pvs_cons pv_str (pvs_cons pv_int pvs_nil)))) (pvs_cons (pv_tup (pvs_cons pv_str (pvs_cons pv_bl pvs_nil))) pvs_nil)))))))))))) (vs_cons (ow1 := [false, false, false, false, false, false, false, false, false, false, false, false, false, false, false, false]) (v_for PassesOwn.never (vi_lst (pv_bin op_addD ok_add (PV.bor (pv_bin op_addD ok_add (pv_b 10) (PV.borF (pv_lst (pvs_cons (pv_call (ok_law_odd T) (hr.mono (by decide)) hgd T.g_law_odd T.F_law_odd.kp T.b_law_odd (pvs_cons (pv_v 1) pvs_nil)) pvs_nil))))) (PV.borF (pv_lc (own := [("_law_k", 15)]) (us := []) sc_law.nd (vi_rng1 (PV.bor pv_int) T.z_range) (blkOk_by (N := N_law) (sc := defScope s_law) (by decide +kernel)) (fun _ _ _ _ _ => (vg_n 15 sc_law.nd)) (fun _ _ _ _ _ => vts_nil) (fun _ _ _ _ _ => (pv_call (ok_law_bent T) (hr.mono (by decide)) hgd T.g_law_bent T.F_law_bent.kp T.b_law_bent (pvs_cons (pv_v 1) (pvs_cons (pv_call (ok_law_some T) (hr.mono (by decide)) hgd T.g_law_some T.F_law_some.kp T.b_law_some (pvs_cons (pv_v 1) (pvs_cons (pv_v 10) pvs_nil))) (pvs_cons pv_int pvs_nil))))))))) (vg_n 11 sc_law.nd) (vs_cons (ow1 := [false, false, false, false, false, false, false, false, false, false, false, false, false, false, false, false]) (v_set 12 sc_law.nd (PV.settle (pv_lst (pvs_cons (pv_call (ok_law_is_one_of T) (hr.mono (by decide)) hgd T.g_law_is_one_of T.F_law_is_one_of.kp T.b_law_is_one_of (pvs_cons (pv_v 11) (pvs_cons (pv_v 5) pvs_nil))) (pvs_cons (pv_call (ok_law_is_one_of T) (hr.mono (by decide)) hgd T.g_law_is_one_of T.F_law_is_one_of.kp T.b_law_is_one_of (pvs_cons (pv_v 11) (pvs_cons (pv_v 6) pvs_nil))) (pvs_cons (pv_call (ok_law_is_one_of T) (hr.mono (by decide)) hgd T.g_law_is_one_of T.F_law_is_one_of.kp T.b_law_is_one_of (pvs_cons (pv_v 11) (pvs_cons (pv_v 7) pvs_nil))) pvs_nil)))))) (vs_one (v_if (pt_not1 (pt_v (PV.bor (pv_call (ok_law_alike T) (hr.mono (by decide)) hgd T.g_law_alike T.F_law_alike.kp T.b_law_alike (pvs_cons (PV.settle (pv_lst (pvs_cons (pv_call (ok_is_edge T) (hr.mono (by decide)) hgd T.g_is_edge T.F_is_edge.kp T.b_is_edge (pvs_cons (pv_v 3) (pvs_cons (pv_v 11) pvs_nil))) (pvs_cons (pv_call (ok_is_corner T) (hr.mono (by decide)) hgd T.g_is_corner T.F_is_corner.kp T.b_is_corner (pvs_cons (pv_v 3) (pvs_cons (pv_v 11) pvs_nil))) (pvs_cons (pv_call (ok_is_label T) (hr.mono (by decide)) hgd T.g_is_label T.F_is_label.kp T.b_is_label (pvs_cons (pv_v 3) (pvs_cons (pv_v 11) pvs_nil))) pvs_nil))))) (pvs_cons (pv_v 12) pvs_nil)))))) (vs_one (v_ret [] pv_bl)) vs_nil)))) (vs_cons (ow1 := [false, false, false, false, false, false, false, false, false, false, false, false, false, false, false, false]) (v_for PassesOwn.never (vi_lst (pv_sl sl_all (ok_sl _) (PV.bor (pv_call (ok_law_mixed T) (hr.mono (by decide)) hgd T.g_law_mixed T.F_law_mixed.kp T.b_law_mixed (pvs_cons (pv_v 1) (pvs_cons (pv_v 6) pvs_nil)))) pvo_n (pvo_s (PV.bor pv_int)))) (vg_n 13 sc_law.nd) (vs_one (v_if (pt_not1 (pt_v (PV.bor (pv_call (ok_law_alike T) (hr.mono (by decide)) hgd T.g_law_alike T.F_law_alike.kp T.b_law_alike (pvs_cons (pv_call (ok_corners_at T) (hr.mono (by decide)) hgd T.g_corners_at T.F_corners_at.kp T.b_corners_at (pvs_cons (pv_ixA hu1 (pv_b 3) (PV.bor pv_int)) (pvs_cons (pv_ixA hu1 (pv_b 3) (PV.bor pv_int)) (pvs_cons (pv_v 13) pvs_nil)))) (pvs_cons (pv_call (ok_law_point_of T) (hr.mono (by decide)) hgd T.g_law_point_of T.F_law_point_of.kp T.b_law_point_of (pvs_cons (pv_v 3) (pvs_cons (pv_v 13) pvs_nil))) pvs_nil)))))) (vs_one (v_ret [] pv_bl)) vs_nil))) (vs_one (v_if (pt_cmp1 (op_neB hu64) (ok_ne _) (PV.bor (pv_call1 (call_reprK hgd hu64) ok_reprK T.z_repr (by decide +kernel) (pv_b 3))) (pv_b 4) (nomark _)) (vs_one (v_ret [] pv_bl)) vs_nil))))))))))) (vs_one (v_ret [] pv_bl)))
    refine ⟨_, pss_cons (ps_set (i := 1) sc_law.nd rfl (by first | exact .inl rfl | exact .inr rfl) (pe_callG (ok_law_bag T) (hr.mono (by decide)) hgd T.g_law_bag T.F_law_bag.kp T.b_law_bag (pa_cons (pv 0) pa_nil))) rest, ?_⟩
    refine ⟨.ref a, rfl, a, ns, rfl, hS, fun p l H1 sm hp hpl e1 e2 => ?_⟩
    exact law_can (n := 14) rfl hB hpl e1 e2 q Q
end
end DL
namespace DL
open PySem PySem.Spec PyProof.Rows L2
def mkTX {K : PySem.W.Frag} {h : Heap} {mg : Str → Option Value} (X : K.In h) (G : h.Ns mainGlobals mg)
    {f_0 : Addr} {oc0 kV0 dc0 pm0 cd0 ct0 : Value} {od0 an0 : Option Addr} {sl0 : Array (Option Value)}
    (a0 : PySem.W.nsIn K mainGlobals "is_integer" = some (some (.ref f_0))) (l0 : K.lookup f_0 = some ⟨oc0, od0, .func (PySem.W.fnOf "is_integer" "is_integer" (defArgs s_is_integer) (defBody s_is_integer) (defScope s_is_integer) .none kV0 dc0 pm0 an0 cd0 ct0), sl0⟩) (c0 : PySem.W.codeIn K cd0 "is_integer" = true) (k0 : PySem.W.keepIn K (.ref f_0) = true)
    {f_1 : Addr} {oc1 kV1 dc1 pm1 cd1 ct1 : Value} {od1 an1 : Option Addr} {sl1 : Array (Option Value)}
    (a1 : PySem.W.nsIn K mainGlobals "is_below" = some (some (.ref f_1))) (l1 : K.lookup f_1 = some ⟨oc1, od1, .func (PySem.W.fnOf "is_below" "is_below" (defArgs s_is_below) (defBody s_is_below) (defScope s_is_below) .none kV1 dc1 pm1 an1 cd1 ct1), sl1⟩) (c1 : PySem.W.codeIn K cd1 "is_below" = true) (k1 : PySem.W.keepIn K (.ref f_1) = true)
    {f_2 : Addr} {oc2 kV2 dc2 pm2 cd2 ct2 : Value} {od2 an2 : Option Addr} {sl2 : Array (Option Value)}
    (a2 : PySem.W.nsIn K mainGlobals "are_parts" = some (some (.ref f_2))) (l2 : K.lookup f_2 = some ⟨oc2, od2, .func (PySem.W.fnOf "are_parts" "are_parts" (defArgs s_are_parts) (defBody s_are_parts) (defScope s_are_parts) .none kV2 dc2 pm2 an2 cd2 ct2), sl2⟩) (c2 : PySem.W.codeIn K cd2 "are_parts" = true) (k2 : PySem.W.keepIn K (.ref f_2) = true)
    {f_3 : Addr} {oc3 kV3 dc3 pm3 cd3 ct3 : Value} {od3 an3 : Option Addr} {sl3 : Array (Option Value)}
    (a3 : PySem.W.nsIn K mainGlobals "beside" = some (some (.ref f_3))) (l3 : K.lookup f_3 = some ⟨oc3, od3, .func (PySem.W.fnOf "beside" "beside" (defArgs s_beside) (defBody s_beside) (defScope s_beside) .none kV3 dc3 pm3 an3 cd3 ct3), sl3⟩) (c3 : PySem.W.codeIn K cd3 "beside" = true) (k3 : PySem.W.keepIn K (.ref f_3) = true)
    {f_4 : Addr} {oc4 kV4 dc4 pm4 cd4 ct4 : Value} {od4 an4 : Option Addr} {sl4 : Array (Option Value)}
    (a4 : PySem.W.nsIn K mainGlobals "corners_at" = some (some (.ref f_4))) (l4 : K.lookup f_4 = some ⟨oc4, od4, .func (PySem.W.fnOf "corners_at" "corners_at" (defArgs s_corners_at) (defBody s_corners_at) (defScope s_corners_at) .none kV4 dc4 pm4 an4 cd4 ct4), sl4⟩) (c4 : PySem.W.codeIn K cd4 "corners_at" = true) (k4 : PySem.W.keepIn K (.ref f_4) = true)
    {f_5 : Addr} {oc5 kV5 dc5 pm5 cd5 ct5 : Value} {od5 an5 : Option Addr} {sl5 : Array (Option Value)}
    (a5 : PySem.W.nsIn K mainGlobals "is_edge_of" = some (some (.ref f_5))) (l5 : K.lookup f_5 = some ⟨oc5, od5, .func (PySem.W.fnOf "is_edge_of" "is_edge_of" (defArgs s_is_edge_of) (defBody s_is_edge_of) (defScope s_is_edge_of) .none kV5 dc5 pm5 an5 cd5 ct5), sl5⟩) (c5 : PySem.W.codeIn K cd5 "is_edge_of" = true) (k5 : PySem.W.keepIn K (.ref f_5) = true)
    {f_6 : Addr} {oc6 kV6 dc6 pm6 cd6 ct6 : Value} {od6 an6 : Option Addr} {sl6 : Array (Option Value)}
    (a6 : PySem.W.nsIn K mainGlobals "is_corner_of" = some (some (.ref f_6))) (l6 : K.lookup f_6 = some ⟨oc6, od6, .func (PySem.W.fnOf "is_corner_of" "is_corner_of" (defArgs s_is_corner_of) (defBody s_is_corner_of) (defScope s_is_corner_of) .none kV6 dc6 pm6 an6 cd6 ct6), sl6⟩) (c6 : PySem.W.codeIn K cd6 "is_corner_of" = true) (k6 : PySem.W.keepIn K (.ref f_6) = true)
    {f_7 : Addr} {oc7 kV7 dc7 pm7 cd7 ct7 : Value} {od7 an7 : Option Addr} {sl7 : Array (Option Value)}
    (a7 : PySem.W.nsIn K mainGlobals "is_edge" = some (some (.ref f_7))) (l7 : K.lookup f_7 = some ⟨oc7, od7, .func (PySem.W.fnOf "is_edge" "is_edge" (defArgs s_is_edge) (defBody s_is_edge) (defScope s_is_edge) .none kV7 dc7 pm7 an7 cd7 ct7), sl7⟩) (c7 : PySem.W.codeIn K cd7 "is_edge" = true) (k7 : PySem.W.keepIn K (.ref f_7) = true)
    {f_8 : Addr} {oc8 kV8 dc8 pm8 cd8 ct8 : Value} {od8 an8 : Option Addr} {sl8 : Array (Option Value)}
    (a8 : PySem.W.nsIn K mainGlobals "is_corner" = some (some (.ref f_8))) (l8 : K.lookup f_8 = some ⟨oc8, od8, .func (PySem.W.fnOf "is_corner" "is_corner" (defArgs s_is_corner) (defBody s_is_corner) (defScope s_is_corner) .none kV8 dc8 pm8 an8 cd8 ct8), sl8⟩) (c8 : PySem.W.codeIn K cd8 "is_corner" = true) (k8 : PySem.W.keepIn K (.ref f_8) = true)
    {f_9 : Addr} {oc9 kV9 dc9 pm9 cd9 ct9 : Value} {od9 an9 : Option Addr} {sl9 : Array (Option Value)}
    (a9 : PySem.W.nsIn K mainGlobals "is_label" = some (some (.ref f_9))) (l9 : K.lookup f_9 = some ⟨oc9, od9, .func (PySem.W.fnOf "is_label" "is_label" (defArgs s_is_label) (defBody s_is_label) (defScope s_is_label) .none kV9 dc9 pm9 an9 cd9 ct9), sl9⟩) (c9 : PySem.W.codeIn K cd9 "is_label" = true) (k9 : PySem.W.keepIn K (.ref f_9) = true)
    {f_10 : Addr} {oc10 kV10 dc10 pm10 cd10 ct10 : Value} {od10 an10 : Option Addr} {sl10 : Array (Option Value)}
    (a10 : PySem.W.nsIn K mainGlobals "_law_bag" = some (some (.ref f_10))) (l10 : K.lookup f_10 = some ⟨oc10, od10, .func (PySem.W.fnOf "_law_bag" "_law_bag" (defArgs s_law_bag) (defBody s_law_bag) (defScope s_law_bag) .none kV10 dc10 pm10 an10 cd10 ct10), sl10⟩) (c10 : PySem.W.codeIn K cd10 "_law_bag" = true) (k10 : PySem.W.keepIn K (.ref f_10) = true)
    {f_11 : Addr} {oc11 kV11 dc11 pm11 cd11 ct11 : Value} {od11 an11 : Option Addr} {sl11 : Array (Option Value)}
    (a11 : PySem.W.nsIn K mainGlobals "_law_take" = some (some (.ref f_11))) (l11 : K.lookup f_11 = some ⟨oc11, od11, .func (PySem.W.fnOf "_law_take" "_law_take" (defArgs s_law_take) (defBody s_law_take) (defScope s_law_take) .none kV11 dc11 pm11 an11 cd11 ct11), sl11⟩) (c11 : PySem.W.codeIn K cd11 "_law_take" = true) (k11 : PySem.W.keepIn K (.ref f_11) = true)
    {f_12 : Addr} {oc12 kV12 dc12 pm12 cd12 ct12 : Value} {od12 an12 : Option Addr} {sl12 : Array (Option Value)}
    (a12 : PySem.W.nsIn K mainGlobals "_law_some" = some (some (.ref f_12))) (l12 : K.lookup f_12 = some ⟨oc12, od12, .func (PySem.W.fnOf "_law_some" "_law_some" (defArgs s_law_some) (defBody s_law_some) (defScope s_law_some) .none kV12 dc12 pm12 an12 cd12 ct12), sl12⟩) (c12 : PySem.W.codeIn K cd12 "_law_some" = true) (k12 : PySem.W.keepIn K (.ref f_12) = true)
    {f_13 : Addr} {oc13 kV13 dc13 pm13 cd13 ct13 : Value} {od13 an13 : Option Addr} {sl13 : Array (Option Value)}
    (a13 : PySem.W.nsIn K mainGlobals "_law_mixed" = some (some (.ref f_13))) (l13 : K.lookup f_13 = some ⟨oc13, od13, .func (PySem.W.fnOf "_law_mixed" "_law_mixed" (defArgs s_law_mixed) (defBody s_law_mixed) (defScope s_law_mixed) .none kV13 dc13 pm13 an13 cd13 ct13), sl13⟩) (c13 : PySem.W.codeIn K cd13 "_law_mixed" = true) (k13 : PySem.W.keepIn K (.ref f_13) = true)
    {f_14 : Addr} {oc14 kV14 dc14 pm14 cd14 ct14 : Value} {od14 an14 : Option Addr} {sl14 : Array (Option Value)}
    (a14 : PySem.W.nsIn K mainGlobals "_law_alike" = some (some (.ref f_14))) (l14 : K.lookup f_14 = some ⟨oc14, od14, .func (PySem.W.fnOf "_law_alike" "_law_alike" (defArgs s_law_alike) (defBody s_law_alike) (defScope s_law_alike) .none kV14 dc14 pm14 an14 cd14 ct14), sl14⟩) (c14 : PySem.W.codeIn K cd14 "_law_alike" = true) (k14 : PySem.W.keepIn K (.ref f_14) = true)
    {f_15 : Addr} {oc15 kV15 dc15 pm15 cd15 ct15 : Value} {od15 an15 : Option Addr} {sl15 : Array (Option Value)}
    (a15 : PySem.W.nsIn K mainGlobals "_law_is_int" = some (some (.ref f_15))) (l15 : K.lookup f_15 = some ⟨oc15, od15, .func (PySem.W.fnOf "_law_is_int" "_law_is_int" (defArgs s_law_is_int) (defBody s_law_is_int) (defScope s_law_is_int) .none kV15 dc15 pm15 an15 cd15 ct15), sl15⟩) (c15 : PySem.W.codeIn K cd15 "_law_is_int" = true) (k15 : PySem.W.keepIn K (.ref f_15) = true)
    {f_16 : Addr} {oc16 kV16 dc16 pm16 cd16 ct16 : Value} {od16 an16 : Option Addr} {sl16 : Array (Option Value)}
    (a16 : PySem.W.nsIn K mainGlobals "_law_joins" = some (some (.ref f_16))) (l16 : K.lookup f_16 = some ⟨oc16, od16, .func (PySem.W.fnOf "_law_joins" "_law_joins" (defArgs s_law_joins) (defBody s_law_joins) (defScope s_law_joins) .none kV16 dc16 pm16 an16 cd16 ct16), sl16⟩) (c16 : PySem.W.codeIn K cd16 "_law_joins" = true) (k16 : PySem.W.keepIn K (.ref f_16) = true)
    {f_17 : Addr} {oc17 kV17 dc17 pm17 cd17 ct17 : Value} {od17 an17 : Option Addr} {sl17 : Array (Option Value)}
    (a17 : PySem.W.nsIn K mainGlobals "_law_gated" = some (some (.ref f_17))) (l17 : K.lookup f_17 = some ⟨oc17, od17, .func (PySem.W.fnOf "_law_gated" "_law_gated" (defArgs s_law_gated) (defBody s_law_gated) (defScope s_law_gated) .none kV17 dc17 pm17 an17 cd17 ct17), sl17⟩) (c17 : PySem.W.codeIn K cd17 "_law_gated" = true) (k17 : PySem.W.keepIn K (.ref f_17) = true)
    {f_18 : Addr} {oc18 kV18 dc18 pm18 cd18 ct18 : Value} {od18 an18 : Option Addr} {sl18 : Array (Option Value)}
    (a18 : PySem.W.nsIn K mainGlobals "_law_edges_of" = some (some (.ref f_18))) (l18 : K.lookup f_18 = some ⟨oc18, od18, .func (PySem.W.fnOf "_law_edges_of" "_law_edges_of" (defArgs s_law_edges_of) (defBody s_law_edges_of) (defScope s_law_edges_of) .none kV18 dc18 pm18 an18 cd18 ct18), sl18⟩) (c18 : PySem.W.codeIn K cd18 "_law_edges_of" = true) (k18 : PySem.W.keepIn K (.ref f_18) = true)
    {f_19 : Addr} {oc19 kV19 dc19 pm19 cd19 ct19 : Value} {od19 an19 : Option Addr} {sl19 : Array (Option Value)}
    (a19 : PySem.W.nsIn K mainGlobals "_law_edges" = some (some (.ref f_19))) (l19 : K.lookup f_19 = some ⟨oc19, od19, .func (PySem.W.fnOf "_law_edges" "_law_edges" (defArgs s_law_edges) (defBody s_law_edges) (defScope s_law_edges) .none kV19 dc19 pm19 an19 cd19 ct19), sl19⟩) (c19 : PySem.W.codeIn K cd19 "_law_edges" = true) (k19 : PySem.W.keepIn K (.ref f_19) = true)
    {f_20 : Addr} {oc20 kV20 dc20 pm20 cd20 ct20 : Value} {od20 an20 : Option Addr} {sl20 : Array (Option Value)}
    (a20 : PySem.W.nsIn K mainGlobals "_law_permutation" = some (some (.ref f_20))) (l20 : K.lookup f_20 = some ⟨oc20, od20, .func (PySem.W.fnOf "_law_permutation" "_law_permutation" (defArgs s_law_permutation) (defBody s_law_permutation) (defScope s_law_permutation) .none kV20 dc20 pm20 an20 cd20 ct20), sl20⟩) (c20 : PySem.W.codeIn K cd20 "_law_permutation" = true) (k20 : PySem.W.keepIn K (.ref f_20) = true)
    {f_21 : Addr} {oc21 kV21 dc21 pm21 cd21 ct21 : Value} {od21 an21 : Option Addr} {sl21 : Array (Option Value)}
    (a21 : PySem.W.nsIn K mainGlobals "_law_dials" = some (some (.ref f_21))) (l21 : K.lookup f_21 = some ⟨oc21, od21, .func (PySem.W.fnOf "_law_dials" "_law_dials" (defArgs s_law_dials) (defBody s_law_dials) (defScope s_law_dials) .none kV21 dc21 pm21 an21 cd21 ct21), sl21⟩) (c21 : PySem.W.codeIn K cd21 "_law_dials" = true) (k21 : PySem.W.keepIn K (.ref f_21) = true)
    {f_22 : Addr} {oc22 kV22 dc22 pm22 cd22 ct22 : Value} {od22 an22 : Option Addr} {sl22 : Array (Option Value)}
    (a22 : PySem.W.nsIn K mainGlobals "_law_name" = some (some (.ref f_22))) (l22 : K.lookup f_22 = some ⟨oc22, od22, .func (PySem.W.fnOf "_law_name" "_law_name" (defArgs s_law_name) (defBody s_law_name) (defScope s_law_name) .none kV22 dc22 pm22 an22 cd22 ct22), sl22⟩) (c22 : PySem.W.codeIn K cd22 "_law_name" = true) (k22 : PySem.W.keepIn K (.ref f_22) = true)
    {f_23 : Addr} {oc23 kV23 dc23 pm23 cd23 ct23 : Value} {od23 an23 : Option Addr} {sl23 : Array (Option Value)}
    (a23 : PySem.W.nsIn K mainGlobals "_law_table" = some (some (.ref f_23))) (l23 : K.lookup f_23 = some ⟨oc23, od23, .func (PySem.W.fnOf "_law_table" "_law_table" (defArgs s_law_table) (defBody s_law_table) (defScope s_law_table) .none kV23 dc23 pm23 an23 cd23 ct23), sl23⟩) (c23 : PySem.W.codeIn K cd23 "_law_table" = true) (k23 : PySem.W.keepIn K (.ref f_23) = true)
    {f_24 : Addr} {oc24 kV24 dc24 pm24 cd24 ct24 : Value} {od24 an24 : Option Addr} {sl24 : Array (Option Value)}
    (a24 : PySem.W.nsIn K mainGlobals "_law_corners" = some (some (.ref f_24))) (l24 : K.lookup f_24 = some ⟨oc24, od24, .func (PySem.W.fnOf "_law_corners" "_law_corners" (defArgs s_law_corners) (defBody s_law_corners) (defScope s_law_corners) .none kV24 dc24 pm24 an24 cd24 ct24), sl24⟩) (c24 : PySem.W.codeIn K cd24 "_law_corners" = true) (k24 : PySem.W.keepIn K (.ref f_24) = true)
    {f_25 : Addr} {oc25 kV25 dc25 pm25 cd25 ct25 : Value} {od25 an25 : Option Addr} {sl25 : Array (Option Value)}
    (a25 : PySem.W.nsIn K mainGlobals "_law_beside" = some (some (.ref f_25))) (l25 : K.lookup f_25 = some ⟨oc25, od25, .func (PySem.W.fnOf "_law_beside" "_law_beside" (defArgs s_law_beside) (defBody s_law_beside) (defScope s_law_beside) .none kV25 dc25 pm25 an25 cd25 ct25), sl25⟩) (c25 : PySem.W.codeIn K cd25 "_law_beside" = true) (k25 : PySem.W.keepIn K (.ref f_25) = true)
    {f_26 : Addr} {oc26 kV26 dc26 pm26 cd26 ct26 : Value} {od26 an26 : Option Addr} {sl26 : Array (Option Value)}
    (a26 : PySem.W.nsIn K mainGlobals "_law_point_of" = some (some (.ref f_26))) (l26 : K.lookup f_26 = some ⟨oc26, od26, .func (PySem.W.fnOf "_law_point_of" "_law_point_of" (defArgs s_law_point_of) (defBody s_law_point_of) (defScope s_law_point_of) .none kV26 dc26 pm26 an26 cd26 ct26), sl26⟩) (c26 : PySem.W.codeIn K cd26 "_law_point_of" = true) (k26 : PySem.W.keepIn K (.ref f_26) = true)
    {f_27 : Addr} {oc27 kV27 dc27 pm27 cd27 ct27 : Value} {od27 an27 : Option Addr} {sl27 : Array (Option Value)}
    (a27 : PySem.W.nsIn K mainGlobals "_law_points" = some (some (.ref f_27))) (l27 : K.lookup f_27 = some ⟨oc27, od27, .func (PySem.W.fnOf "_law_points" "_law_points" (defArgs s_law_points) (defBody s_law_points) (defScope s_law_points) .none kV27 dc27 pm27 an27 cd27 ct27), sl27⟩) (c27 : PySem.W.codeIn K cd27 "_law_points" = true) (k27 : PySem.W.keepIn K (.ref f_27) = true)
    {f_28 : Addr} {oc28 kV28 dc28 pm28 cd28 ct28 : Value} {od28 an28 : Option Addr} {sl28 : Array (Option Value)}
    (a28 : PySem.W.nsIn K mainGlobals "_law_labels" = some (some (.ref f_28))) (l28 : K.lookup f_28 = some ⟨oc28, od28, .func (PySem.W.fnOf "_law_labels" "_law_labels" (defArgs s_law_labels) (defBody s_law_labels) (defScope s_law_labels) .none kV28 dc28 pm28 an28 cd28 ct28), sl28⟩) (c28 : PySem.W.codeIn K cd28 "_law_labels" = true) (k28 : PySem.W.keepIn K (.ref f_28) = true)
    {f_29 : Addr} {oc29 kV29 dc29 pm29 cd29 ct29 : Value} {od29 an29 : Option Addr} {sl29 : Array (Option Value)}
    (a29 : PySem.W.nsIn K mainGlobals "_law_is_one_of" = some (some (.ref f_29))) (l29 : K.lookup f_29 = some ⟨oc29, od29, .func (PySem.W.fnOf "_law_is_one_of" "_law_is_one_of" (defArgs s_law_is_one_of) (defBody s_law_is_one_of) (defScope s_law_is_one_of) .none kV29 dc29 pm29 an29 cd29 ct29), sl29⟩) (c29 : PySem.W.codeIn K cd29 "_law_is_one_of" = true) (k29 : PySem.W.keepIn K (.ref f_29) = true)
    {f_30 : Addr} {oc30 kV30 dc30 pm30 cd30 ct30 : Value} {od30 an30 : Option Addr} {sl30 : Array (Option Value)}
    (a30 : PySem.W.nsIn K mainGlobals "_law_odd" = some (some (.ref f_30))) (l30 : K.lookup f_30 = some ⟨oc30, od30, .func (PySem.W.fnOf "_law_odd" "_law_odd" (defArgs s_law_odd) (defBody s_law_odd) (defScope s_law_odd) .none kV30 dc30 pm30 an30 cd30 ct30), sl30⟩) (c30 : PySem.W.codeIn K cd30 "_law_odd" = true) (k30 : PySem.W.keepIn K (.ref f_30) = true)
    {f_31 : Addr} {oc31 kV31 dc31 pm31 cd31 ct31 : Value} {od31 an31 : Option Addr} {sl31 : Array (Option Value)}
    (a31 : PySem.W.nsIn K mainGlobals "_law_bent" = some (some (.ref f_31))) (l31 : K.lookup f_31 = some ⟨oc31, od31, .func (PySem.W.fnOf "_law_bent" "_law_bent" (defArgs s_law_bent) (defBody s_law_bent) (defScope s_law_bent) .none kV31 dc31 pm31 an31 cd31 ct31), sl31⟩) (c31 : PySem.W.codeIn K cd31 "_law_bent" = true) (k31 : PySem.W.keepIn K (.ref f_31) = true)
    {f_32 : Addr} {oc32 kV32 dc32 pm32 cd32 ct32 : Value} {od32 an32 : Option Addr} {sl32 : Array (Option Value)}
    (a32 : PySem.W.nsIn K mainGlobals "law" = some (some (.ref f_32))) (l32 : K.lookup f_32 = some ⟨oc32, od32, .func (PySem.W.fnOf "law" "law" (defArgs s_law) (defBody s_law) (defScope s_law) .none kV32 dc32 pm32 an32 cd32 ct32), sl32⟩) (c32 : PySem.W.codeIn K cd32 "law" = true) (k32 : PySem.W.keepIn K (.ref f_32) = true)
    (z_abs : PySem.W.nsIn K mainGlobals "abs" = some none)
    (z_bool : PySem.W.nsIn K mainGlobals "bool" = some none)
    (z_enumerate : PySem.W.nsIn K mainGlobals "enumerate" = some none)
    (z_int : PySem.W.nsIn K mainGlobals "int" = some none)
    (z_isinstance : PySem.W.nsIn K mainGlobals "isinstance" = some none)
    (z_len : PySem.W.nsIn K mainGlobals "len" = some none)
    (z_list : PySem.W.nsIn K mainGlobals "list" = some none)
    (z_range : PySem.W.nsIn K mainGlobals "range" = some none)
    (z_repr : PySem.W.nsIn K mainGlobals "repr" = some none)
    (z_set : PySem.W.nsIn K mainGlobals "set" = some none)
    (z_sorted : PySem.W.nsIn K mainGlobals "sorted" = some none)
    (z_str : PySem.W.nsIn K mainGlobals "str" = some none)
    (z_tuple : PySem.W.nsIn K mainGlobals "tuple" = some none)
    {tc_WAYS : Addr} {to_WAYS : Option Addr} {ti_WAYS : Array Value} {tn_WAYS : Nat} {ts_WAYS : Array (Option Value)}
    (ta_WAYS : PySem.W.nsIn K mainGlobals "WAYS" = some (some (.ref tc_WAYS))) (tl_WAYS : K.lookup tc_WAYS = some ⟨.type "tuple", to_WAYS, .seq ti_WAYS tn_WAYS, ts_WAYS⟩) (tz_WAYS : ti_WAYS.size ≤ 1000) (tv_WAYS : Vals [V.str "right", V.str "up", V.str "left", V.str "down"] ti_WAYS.toList)
    : TX K mg where
  f_is_integer := f_0
  fd_is_integer := _
  F_is_integer := fun_mk (st := s_is_integer) l0 c0 k0
  b_is_integer := (fun_mk (st := s_is_integer) l0 c0 k0).binds (ps := ["thing"]) fun _ _ _ _ _ _ us hl => match us, hl with | [_], _ => rfl
  g_is_integer := PySem.W.mg_of X G a0
  f_is_below := f_1
  fd_is_below := _
  F_is_below := fun_mk (st := s_is_below) l1 c1 k1
  b_is_below := (fun_mk (st := s_is_below) l1 c1 k1).binds (ps := ["thing", "many"]) fun _ _ _ _ _ _ us hl => match us, hl with | [_, _], _ => rfl
  g_is_below := PySem.W.mg_of X G a1
  f_are_parts := f_2
  fd_are_parts := _
  F_are_parts := fun_mk (st := s_are_parts) l2 c2 k2
  b_are_parts := (fun_mk (st := s_are_parts) l2 c2 k2).binds (ps := ["thing", "many"]) fun _ _ _ _ _ _ us hl => match us, hl with | [_, _], _ => rfl
  g_are_parts := PySem.W.mg_of X G a2
  f_beside := f_3
  fd_beside := _
  F_beside := fun_mk (st := s_beside) l3 c3 k3
  b_beside := (fun_mk (st := s_beside) l3 c3 k3).binds (ps := ["rights", "ups", "corner"]) fun _ _ _ _ _ _ us hl => match us, hl with | [_, _, _], _ => rfl
  g_beside := PySem.W.mg_of X G a3
  f_corners_at := f_4
  fd_corners_at := _
  F_corners_at := fun_mk (st := s_corners_at) l4 c4 k4
  b_corners_at := (fun_mk (st := s_corners_at) l4 c4 k4).binds (ps := ["rights", "ups", "corner"]) fun _ _ _ _ _ _ us hl => match us, hl with | [_, _, _], _ => rfl
  g_corners_at := PySem.W.mg_of X G a4
  f_is_edge_of := f_5
  fd_is_edge_of := _
  F_is_edge_of := fun_mk (st := s_is_edge_of) l5 c5 k5
  b_is_edge_of := (fun_mk (st := s_is_edge_of) l5 c5 k5).binds (ps := ["rights", "ups", "thing"]) fun _ _ _ _ _ _ us hl => match us, hl with | [_, _, _], _ => rfl
  g_is_edge_of := PySem.W.mg_of X G a5
  f_is_corner_of := f_6
  fd_is_corner_of := _
  F_is_corner_of := fun_mk (st := s_is_corner_of) l6 c6 k6
  b_is_corner_of := (fun_mk (st := s_is_corner_of) l6 c6 k6).binds (ps := ["size", "thing"]) fun _ _ _ _ _ _ us hl => match us, hl with | [_, _], _ => rfl
  g_is_corner_of := PySem.W.mg_of X G a6
  f_is_edge := f_7
  fd_is_edge := _
  F_is_edge := fun_mk (st := s_is_edge) l7 c7 k7
  b_is_edge := (fun_mk (st := s_is_edge) l7 c7 k7).binds (ps := ["table", "thing"]) fun _ _ _ _ _ _ us hl => match us, hl with | [_, _], _ => rfl
  g_is_edge := PySem.W.mg_of X G a7
  f_is_corner := f_8
  fd_is_corner := _
  F_is_corner := fun_mk (st := s_is_corner) l8 c8 k8
  b_is_corner := (fun_mk (st := s_is_corner) l8 c8 k8).binds (ps := ["table", "thing"]) fun _ _ _ _ _ _ us hl => match us, hl with | [_, _], _ => rfl
  g_is_corner := PySem.W.mg_of X G a8
  f_is_label := f_9
  fd_is_label := _
  F_is_label := fun_mk (st := s_is_label) l9 c9 k9
  b_is_label := (fun_mk (st := s_is_label) l9 c9 k9).binds (ps := ["table", "thing"]) fun _ _ _ _ _ _ us hl => match us, hl with | [_, _], _ => rfl
  g_is_label := PySem.W.mg_of X G a9
  f_law_bag := f_10
  fd_law_bag := _
  F_law_bag := fun_mk (st := s_law_bag) l10 c10 k10
  b_law_bag := (fun_mk (st := s_law_bag) l10 c10 k10).binds (ps := ["_law_script"]) fun _ _ _ _ _ _ us hl => match us, hl with | [_], _ => rfl
  g_law_bag := PySem.W.mg_of X G a10
  f_law_take := f_11
  fd_law_take := _
  F_law_take := fun_mk (st := s_law_take) l11 c11 k11
  b_law_take := (fun_mk (st := s_law_take) l11 c11 k11).binds (ps := ["_law_bag_here", "_law_many"]) fun _ _ _ _ _ _ us hl => match us, hl with | [_, _], _ => rfl
  g_law_take := PySem.W.mg_of X G a11
  f_law_some := f_12
  fd_law_some := _
  F_law_some := fun_mk (st := s_law_some) l12 c12 k12
  b_law_some := (fun_mk (st := s_law_some) l12 c12 k12).binds (ps := ["_law_bag_here", "_law_things"]) fun _ _ _ _ _ _ us hl => match us, hl with | [_, _], _ => rfl
  g_law_some := PySem.W.mg_of X G a12
  f_law_mixed := f_13
  fd_law_mixed := _
  F_law_mixed := fun_mk (st := s_law_mixed) l13 c13 k13
  b_law_mixed := (fun_mk (st := s_law_mixed) l13 c13 k13).binds (ps := ["_law_bag_here", "_law_things"]) fun _ _ _ _ _ _ us hl => match us, hl with | [_, _], _ => rfl
  g_law_mixed := PySem.W.mg_of X G a13
  f_law_alike := f_14
  fd_law_alike := _
  F_law_alike := fun_mk (st := s_law_alike) l14 c14 k14
  b_law_alike := (fun_mk (st := s_law_alike) l14 c14 k14).binds (ps := ["_law_found", "_law_due"]) fun _ _ _ _ _ _ us hl => match us, hl with | [_, _], _ => rfl
  g_law_alike := PySem.W.mg_of X G a14
  f_law_is_int := f_15
  fd_law_is_int := _
  F_law_is_int := fun_mk (st := s_law_is_int) l15 c15 k15
  b_law_is_int := (fun_mk (st := s_law_is_int) l15 c15 k15).binds (ps := ["_law_thing"]) fun _ _ _ _ _ _ us hl => match us, hl with | [_], _ => rfl
  g_law_is_int := PySem.W.mg_of X G a15
  f_law_joins := f_16
  fd_law_joins := _
  F_law_joins := fun_mk (st := s_law_joins) l16 c16 k16
  b_law_joins := (fun_mk (st := s_law_joins) l16 c16 k16).binds (ps := ["_law_bag_here", "_law_size"]) fun _ _ _ _ _ _ us hl => match us, hl with | [_, _], _ => rfl
  g_law_joins := PySem.W.mg_of X G a16
  f_law_gated := f_17
  fd_law_gated := _
  F_law_gated := fun_mk (st := s_law_gated) l17 c17 k17
  b_law_gated := (fun_mk (st := s_law_gated) l17 c17 k17).binds (ps := ["_law_bag_here", "_law_joins_here"]) fun _ _ _ _ _ _ us hl => match us, hl with | [_, _], _ => rfl
  g_law_gated := PySem.W.mg_of X G a17
  f_law_edges_of := f_18
  fd_law_edges_of := _
  F_law_edges_of := fun_mk (st := s_law_edges_of) l18 c18 k18
  b_law_edges_of := (fun_mk (st := s_law_edges_of) l18 c18 k18).binds (ps := ["_law_rights", "_law_ups"]) fun _ _ _ _ _ _ us hl => match us, hl with | [_, _], _ => rfl
  g_law_edges_of := PySem.W.mg_of X G a18
  f_law_edges := f_19
  fd_law_edges := _
  F_law_edges := fun_mk (st := s_law_edges) l19 c19 k19
  b_law_edges := (fun_mk (st := s_law_edges) l19 c19 k19).binds (ps := ["_law_table_here"]) fun _ _ _ _ _ _ us hl => match us, hl with | [_], _ => rfl
  g_law_edges := PySem.W.mg_of X G a19
  f_law_permutation := f_20
  fd_law_permutation := _
  F_law_permutation := fun_mk (st := s_law_permutation) l20 c20 k20
  b_law_permutation := (fun_mk (st := s_law_permutation) l20 c20 k20).binds (ps := ["_law_bag_here", "_law_many", "_law_is_turn"]) fun _ _ _ _ _ _ us hl => match us, hl with | [_, _, _], _ => rfl
  g_law_permutation := PySem.W.mg_of X G a20
  f_law_dials := f_21
  fd_law_dials := _
  F_law_dials := fun_mk (st := s_law_dials) l21 c21 k21
  b_law_dials := (fun_mk (st := s_law_dials) l21 c21 k21).binds (ps := ["_law_bag_here", "_law_edges_here", "_law_marks"]) fun _ _ _ _ _ _ us hl => match us, hl with | [_, _, _], _ => rfl
  g_law_dials := PySem.W.mg_of X G a21
  f_law_name := f_22
  fd_law_name := _
  F_law_name := fun_mk (st := s_law_name) l22 c22 k22
  b_law_name := (fun_mk (st := s_law_name) l22 c22 k22).binds (ps := ["_law_bag_here"]) fun _ _ _ _ _ _ us hl => match us, hl with | [_], _ => rfl
  g_law_name := PySem.W.mg_of X G a22
  f_law_table := f_23
  fd_law_table := _
  F_law_table := fun_mk (st := s_law_table) l23 c23 k23
  b_law_table := (fun_mk (st := s_law_table) l23 c23 k23).binds (ps := ["_law_bag_here", "_law_most"]) fun _ _ _ _ _ _ us hl => match us, hl with | [_, _], _ => rfl
  g_law_table := PySem.W.mg_of X G a23
  f_law_corners := f_24
  fd_law_corners := _
  F_law_corners := fun_mk (st := s_law_corners) l24 c24 k24
  b_law_corners := (fun_mk (st := s_law_corners) l24 c24 k24).binds (ps := ["_law_table_here"]) fun _ _ _ _ _ _ us hl => match us, hl with | [_], _ => rfl
  g_law_corners := PySem.W.mg_of X G a24
  f_law_beside := f_25
  fd_law_beside := _
  F_law_beside := fun_mk (st := s_law_beside) l25 c25 k25
  b_law_beside := (fun_mk (st := s_law_beside) l25 c25 k25).binds (ps := ["_law_table_here", "_law_corner"]) fun _ _ _ _ _ _ us hl => match us, hl with | [_, _], _ => rfl
  g_law_beside := PySem.W.mg_of X G a25
  f_law_point_of := f_26
  fd_law_point_of := _
  F_law_point_of := fun_mk (st := s_law_point_of) l26 c26 k26
  b_law_point_of := (fun_mk (st := s_law_point_of) l26 c26 k26).binds (ps := ["_law_table_here", "_law_corner"]) fun _ _ _ _ _ _ us hl => match us, hl with | [_, _], _ => rfl
  g_law_point_of := PySem.W.mg_of X G a26
  f_law_points := f_27
  fd_law_points := _
  F_law_points := fun_mk (st := s_law_points) l27 c27 k27
  b_law_points := (fun_mk (st := s_law_points) l27 c27 k27).binds (ps := ["_law_table_here"]) fun _ _ _ _ _ _ us hl => match us, hl with | [_], _ => rfl
  g_law_points := PySem.W.mg_of X G a27
  f_law_labels := f_28
  fd_law_labels := _
  F_law_labels := fun_mk (st := s_law_labels) l28 c28 k28
  b_law_labels := (fun_mk (st := s_law_labels) l28 c28 k28).binds (ps := ["_law_table_here"]) fun _ _ _ _ _ _ us hl => match us, hl with | [_], _ => rfl
  g_law_labels := PySem.W.mg_of X G a28
  f_law_is_one_of := f_29
  fd_law_is_one_of := _
  F_law_is_one_of := fun_mk (st := s_law_is_one_of) l29 c29 k29
  b_law_is_one_of := (fun_mk (st := s_law_is_one_of) l29 c29 k29).binds (ps := ["_law_thing", "_law_some_here"]) fun _ _ _ _ _ _ us hl => match us, hl with | [_, _], _ => rfl
  g_law_is_one_of := PySem.W.mg_of X G a29
  f_law_odd := f_30
  fd_law_odd := _
  F_law_odd := fun_mk (st := s_law_odd) l30 c30 k30
  b_law_odd := (fun_mk (st := s_law_odd) l30 c30 k30).binds (ps := ["_law_bag_here"]) fun _ _ _ _ _ _ us hl => match us, hl with | [_], _ => rfl
  g_law_odd := PySem.W.mg_of X G a30
  f_law_bent := f_31
  fd_law_bent := _
  F_law_bent := fun_mk (st := s_law_bent) l31 c31 k31
  b_law_bent := (fun_mk (st := s_law_bent) l31 c31 k31).binds (ps := ["_law_bag_here", "_law_thing", "_law_deep"]) fun _ _ _ _ _ _ us hl => match us, hl with | [_, _, _], _ => rfl
  g_law_bent := PySem.W.mg_of X G a31
  f_law := f_32
  fd_law := _
  F_law := fun_mk (st := s_law) l32 c32 k32
  b_law := (fun_mk (st := s_law) l32 c32 k32).binds (ps := ["_law_script"]) fun _ _ _ _ _ _ us hl => match us, hl with | [_], _ => rfl
  g_law := PySem.W.mg_of X G a32
  z_abs := PySem.W.mg_none_of X G z_abs
  z_bool := PySem.W.mg_none_of X G z_bool
  z_enumerate := PySem.W.mg_none_of X G z_enumerate
  z_int := PySem.W.mg_none_of X G z_int
  z_isinstance := PySem.W.mg_none_of X G z_isinstance
  z_len := PySem.W.mg_none_of X G z_len
  z_list := PySem.W.mg_none_of X G z_list
  z_range := PySem.W.mg_none_of X G z_range
  z_repr := PySem.W.mg_none_of X G z_repr
  z_set := PySem.W.mg_none_of X G z_set
  z_sorted := PySem.W.mg_none_of X G z_sorted
  z_str := PySem.W.mg_none_of X G z_str
  z_tuple := PySem.W.mg_none_of X G z_tuple
  c_WAYS := tc_WAYS
  g_WAYS := PySem.W.mg_of X G ta_WAYS
  k_WAYS := ktup_mk tl_WAYS tz_WAYS tv_WAYS
theorem all_mk {l : PySem.W.OpenLaw} {w : World} {K : PySem.W.Frag} {h : Heap} {mg : Str → Option Value} {fa : Addr} (hm : ∀ ns : List Int, ns.length ≤ 63 → ∃ B, b_law (none :: some .bag :: List.replicate 14 none) (bag0 ns) = some (.rt (.bl true), B)) (X : K.In h) (G : h.Ns mainGlobals mg) (hfa : mg "law" = some (.ref fa))
    {f_0 : Addr} {oc0 kV0 dc0 pm0 cd0 ct0 : Value} {od0 an0 : Option Addr} {sl0 : Array (Option Value)}
    (a0 : PySem.W.nsIn K mainGlobals "is_integer" = some (some (.ref f_0))) (l0 : K.lookup f_0 = some ⟨oc0, od0, .func (PySem.W.fnOf "is_integer" "is_integer" (defArgs s_is_integer) (defBody s_is_integer) (defScope s_is_integer) .none kV0 dc0 pm0 an0 cd0 ct0), sl0⟩) (c0 : PySem.W.codeIn K cd0 "is_integer" = true) (k0 : PySem.W.keepIn K (.ref f_0) = true)
    {f_1 : Addr} {oc1 kV1 dc1 pm1 cd1 ct1 : Value} {od1 an1 : Option Addr} {sl1 : Array (Option Value)}
    (a1 : PySem.W.nsIn K mainGlobals "is_below" = some (some (.ref f_1))) (l1 : K.lookup f_1 = some ⟨oc1, od1, .func (PySem.W.fnOf "is_below" "is_below" (defArgs s_is_below) (defBody s_is_below) (defScope s_is_below) .none kV1 dc1 pm1 an1 cd1 ct1), sl1⟩) (c1 : PySem.W.codeIn K cd1 "is_below" = true) (k1 : PySem.W.keepIn K (.ref f_1) = true)
    {f_2 : Addr} {oc2 kV2 dc2 pm2 cd2 ct2 : Value} {od2 an2 : Option Addr} {sl2 : Array (Option Value)}
    (a2 : PySem.W.nsIn K mainGlobals "are_parts" = some (some (.ref f_2))) (l2 : K.lookup f_2 = some ⟨oc2, od2, .func (PySem.W.fnOf "are_parts" "are_parts" (defArgs s_are_parts) (defBody s_are_parts) (defScope s_are_parts) .none kV2 dc2 pm2 an2 cd2 ct2), sl2⟩) (c2 : PySem.W.codeIn K cd2 "are_parts" = true) (k2 : PySem.W.keepIn K (.ref f_2) = true)
    {f_3 : Addr} {oc3 kV3 dc3 pm3 cd3 ct3 : Value} {od3 an3 : Option Addr} {sl3 : Array (Option Value)}
    (a3 : PySem.W.nsIn K mainGlobals "beside" = some (some (.ref f_3))) (l3 : K.lookup f_3 = some ⟨oc3, od3, .func (PySem.W.fnOf "beside" "beside" (defArgs s_beside) (defBody s_beside) (defScope s_beside) .none kV3 dc3 pm3 an3 cd3 ct3), sl3⟩) (c3 : PySem.W.codeIn K cd3 "beside" = true) (k3 : PySem.W.keepIn K (.ref f_3) = true)
    {f_4 : Addr} {oc4 kV4 dc4 pm4 cd4 ct4 : Value} {od4 an4 : Option Addr} {sl4 : Array (Option Value)}
    (a4 : PySem.W.nsIn K mainGlobals "corners_at" = some (some (.ref f_4))) (l4 : K.lookup f_4 = some ⟨oc4, od4, .func (PySem.W.fnOf "corners_at" "corners_at" (defArgs s_corners_at) (defBody s_corners_at) (defScope s_corners_at) .none kV4 dc4 pm4 an4 cd4 ct4), sl4⟩) (c4 : PySem.W.codeIn K cd4 "corners_at" = true) (k4 : PySem.W.keepIn K (.ref f_4) = true)
    {f_5 : Addr} {oc5 kV5 dc5 pm5 cd5 ct5 : Value} {od5 an5 : Option Addr} {sl5 : Array (Option Value)}
    (a5 : PySem.W.nsIn K mainGlobals "is_edge_of" = some (some (.ref f_5))) (l5 : K.lookup f_5 = some ⟨oc5, od5, .func (PySem.W.fnOf "is_edge_of" "is_edge_of" (defArgs s_is_edge_of) (defBody s_is_edge_of) (defScope s_is_edge_of) .none kV5 dc5 pm5 an5 cd5 ct5), sl5⟩) (c5 : PySem.W.codeIn K cd5 "is_edge_of" = true) (k5 : PySem.W.keepIn K (.ref f_5) = true)
    {f_6 : Addr} {oc6 kV6 dc6 pm6 cd6 ct6 : Value} {od6 an6 : Option Addr} {sl6 : Array (Option Value)}
    (a6 : PySem.W.nsIn K mainGlobals "is_corner_of" = some (some (.ref f_6))) (l6 : K.lookup f_6 = some ⟨oc6, od6, .func (PySem.W.fnOf "is_corner_of" "is_corner_of" (defArgs s_is_corner_of) (defBody s_is_corner_of) (defScope s_is_corner_of) .none kV6 dc6 pm6 an6 cd6 ct6), sl6⟩) (c6 : PySem.W.codeIn K cd6 "is_corner_of" = true) (k6 : PySem.W.keepIn K (.ref f_6) = true)
    {f_7 : Addr} {oc7 kV7 dc7 pm7 cd7 ct7 : Value} {od7 an7 : Option Addr} {sl7 : Array (Option Value)}
    (a7 : PySem.W.nsIn K mainGlobals "is_edge" = some (some (.ref f_7))) (l7 : K.lookup f_7 = some ⟨oc7, od7, .func (PySem.W.fnOf "is_edge" "is_edge" (defArgs s_is_edge) (defBody s_is_edge) (defScope s_is_edge) .none kV7 dc7 pm7 an7 cd7 ct7), sl7⟩) (c7 : PySem.W.codeIn K cd7 "is_edge" = true) (k7 : PySem.W.keepIn K (.ref f_7) = true)
    {f_8 : Addr} {oc8 kV8 dc8 pm8 cd8 ct8 : Value} {od8 an8 : Option Addr} {sl8 : Array (Option Value)}
    (a8 : PySem.W.nsIn K mainGlobals "is_corner" = some (some (.ref f_8))) (l8 : K.lookup f_8 = some ⟨oc8, od8, .func (PySem.W.fnOf "is_corner" "is_corner" (defArgs s_is_corner) (defBody s_is_corner) (defScope s_is_corner) .none kV8 dc8 pm8 an8 cd8 ct8), sl8⟩) (c8 : PySem.W.codeIn K cd8 "is_corner" = true) (k8 : PySem.W.keepIn K (.ref f_8) = true)
    {f_9 : Addr} {oc9 kV9 dc9 pm9 cd9 ct9 : Value} {od9 an9 : Option Addr} {sl9 : Array (Option Value)}
    (a9 : PySem.W.nsIn K mainGlobals "is_label" = some (some (.ref f_9))) (l9 : K.lookup f_9 = some ⟨oc9, od9, .func (PySem.W.fnOf "is_label" "is_label" (defArgs s_is_label) (defBody s_is_label) (defScope s_is_label) .none kV9 dc9 pm9 an9 cd9 ct9), sl9⟩) (c9 : PySem.W.codeIn K cd9 "is_label" = true) (k9 : PySem.W.keepIn K (.ref f_9) = true)
    {f_10 : Addr} {oc10 kV10 dc10 pm10 cd10 ct10 : Value} {od10 an10 : Option Addr} {sl10 : Array (Option Value)}
    (a10 : PySem.W.nsIn K mainGlobals "_law_bag" = some (some (.ref f_10))) (l10 : K.lookup f_10 = some ⟨oc10, od10, .func (PySem.W.fnOf "_law_bag" "_law_bag" (defArgs s_law_bag) (defBody s_law_bag) (defScope s_law_bag) .none kV10 dc10 pm10 an10 cd10 ct10), sl10⟩) (c10 : PySem.W.codeIn K cd10 "_law_bag" = true) (k10 : PySem.W.keepIn K (.ref f_10) = true)
    {f_11 : Addr} {oc11 kV11 dc11 pm11 cd11 ct11 : Value} {od11 an11 : Option Addr} {sl11 : Array (Option Value)}
    (a11 : PySem.W.nsIn K mainGlobals "_law_take" = some (some (.ref f_11))) (l11 : K.lookup f_11 = some ⟨oc11, od11, .func (PySem.W.fnOf "_law_take" "_law_take" (defArgs s_law_take) (defBody s_law_take) (defScope s_law_take) .none kV11 dc11 pm11 an11 cd11 ct11), sl11⟩) (c11 : PySem.W.codeIn K cd11 "_law_take" = true) (k11 : PySem.W.keepIn K (.ref f_11) = true)
    {f_12 : Addr} {oc12 kV12 dc12 pm12 cd12 ct12 : Value} {od12 an12 : Option Addr} {sl12 : Array (Option Value)}
    (a12 : PySem.W.nsIn K mainGlobals "_law_some" = some (some (.ref f_12))) (l12 : K.lookup f_12 = some ⟨oc12, od12, .func (PySem.W.fnOf "_law_some" "_law_some" (defArgs s_law_some) (defBody s_law_some) (defScope s_law_some) .none kV12 dc12 pm12 an12 cd12 ct12), sl12⟩) (c12 : PySem.W.codeIn K cd12 "_law_some" = true) (k12 : PySem.W.keepIn K (.ref f_12) = true)
    {f_13 : Addr} {oc13 kV13 dc13 pm13 cd13 ct13 : Value} {od13 an13 : Option Addr} {sl13 : Array (Option Value)}
    (a13 : PySem.W.nsIn K mainGlobals "_law_mixed" = some (some (.ref f_13))) (l13 : K.lookup f_13 = some ⟨oc13, od13, .func (PySem.W.fnOf "_law_mixed" "_law_mixed" (defArgs s_law_mixed) (defBody s_law_mixed) (defScope s_law_mixed) .none kV13 dc13 pm13 an13 cd13 ct13), sl13⟩) (c13 : PySem.W.codeIn K cd13 "_law_mixed" = true) (k13 : PySem.W.keepIn K (.ref f_13) = true)
    {f_14 : Addr} {oc14 kV14 dc14 pm14 cd14 ct14 : Value} {od14 an14 : Option Addr} {sl14 : Array (Option Value)}
    (a14 : PySem.W.nsIn K mainGlobals "_law_alike" = some (some (.ref f_14))) (l14 : K.lookup f_14 = some ⟨oc14, od14, .func (PySem.W.fnOf "_law_alike" "_law_alike" (defArgs s_law_alike) (defBody s_law_alike) (defScope s_law_alike) .none kV14 dc14 pm14 an14 cd14 ct14), sl14⟩) (c14 : PySem.W.codeIn K cd14 "_law_alike" = true) (k14 : PySem.W.keepIn K (.ref f_14) = true)
    {f_15 : Addr} {oc15 kV15 dc15 pm15 cd15 ct15 : Value} {od15 an15 : Option Addr} {sl15 : Array (Option Value)}
    (a15 : PySem.W.nsIn K mainGlobals "_law_is_int" = some (some (.ref f_15))) (l15 : K.lookup f_15 = some ⟨oc15, od15, .func (PySem.W.fnOf "_law_is_int" "_law_is_int" (defArgs s_law_is_int) (defBody s_law_is_int) (defScope s_law_is_int) .none kV15 dc15 pm15 an15 cd15 ct15), sl15⟩) (c15 : PySem.W.codeIn K cd15 "_law_is_int" = true) (k15 : PySem.W.keepIn K (.ref f_15) = true)
    {f_16 : Addr} {oc16 kV16 dc16 pm16 cd16 ct16 : Value} {od16 an16 : Option Addr} {sl16 : Array (Option Value)}
    (a16 : PySem.W.nsIn K mainGlobals "_law_joins" = some (some (.ref f_16))) (l16 : K.lookup f_16 = some ⟨oc16, od16, .func (PySem.W.fnOf "_law_joins" "_law_joins" (defArgs s_law_joins) (defBody s_law_joins) (defScope s_law_joins) .none kV16 dc16 pm16 an16 cd16 ct16), sl16⟩) (c16 : PySem.W.codeIn K cd16 "_law_joins" = true) (k16 : PySem.W.keepIn K (.ref f_16) = true)
    {f_17 : Addr} {oc17 kV17 dc17 pm17 cd17 ct17 : Value} {od17 an17 : Option Addr} {sl17 : Array (Option Value)}
    (a17 : PySem.W.nsIn K mainGlobals "_law_gated" = some (some (.ref f_17))) (l17 : K.lookup f_17 = some ⟨oc17, od17, .func (PySem.W.fnOf "_law_gated" "_law_gated" (defArgs s_law_gated) (defBody s_law_gated) (defScope s_law_gated) .none kV17 dc17 pm17 an17 cd17 ct17), sl17⟩) (c17 : PySem.W.codeIn K cd17 "_law_gated" = true) (k17 : PySem.W.keepIn K (.ref f_17) = true)
    {f_18 : Addr} {oc18 kV18 dc18 pm18 cd18 ct18 : Value} {od18 an18 : Option Addr} {sl18 : Array (Option Value)}
    (a18 : PySem.W.nsIn K mainGlobals "_law_edges_of" = some (some (.ref f_18))) (l18 : K.lookup f_18 = some ⟨oc18, od18, .func (PySem.W.fnOf "_law_edges_of" "_law_edges_of" (defArgs s_law_edges_of) (defBody s_law_edges_of) (defScope s_law_edges_of) .none kV18 dc18 pm18 an18 cd18 ct18), sl18⟩) (c18 : PySem.W.codeIn K cd18 "_law_edges_of" = true) (k18 : PySem.W.keepIn K (.ref f_18) = true)
    {f_19 : Addr} {oc19 kV19 dc19 pm19 cd19 ct19 : Value} {od19 an19 : Option Addr} {sl19 : Array (Option Value)}
    (a19 : PySem.W.nsIn K mainGlobals "_law_edges" = some (some (.ref f_19))) (l19 : K.lookup f_19 = some ⟨oc19, od19, .func (PySem.W.fnOf "_law_edges" "_law_edges" (defArgs s_law_edges) (defBody s_law_edges) (defScope s_law_edges) .none kV19 dc19 pm19 an19 cd19 ct19), sl19⟩) (c19 : PySem.W.codeIn K cd19 "_law_edges" = true) (k19 : PySem.W.keepIn K (.ref f_19) = true)
    {f_20 : Addr} {oc20 kV20 dc20 pm20 cd20 ct20 : Value} {od20 an20 : Option Addr} {sl20 : Array (Option Value)}
    (a20 : PySem.W.nsIn K mainGlobals "_law_permutation" = some (some (.ref f_20))) (l20 : K.lookup f_20 = some ⟨oc20, od20, .func (PySem.W.fnOf "_law_permutation" "_law_permutation" (defArgs s_law_permutation) (defBody s_law_permutation) (defScope s_law_permutation) .none kV20 dc20 pm20 an20 cd20 ct20), sl20⟩) (c20 : PySem.W.codeIn K cd20 "_law_permutation" = true) (k20 : PySem.W.keepIn K (.ref f_20) = true)
    {f_21 : Addr} {oc21 kV21 dc21 pm21 cd21 ct21 : Value} {od21 an21 : Option Addr} {sl21 : Array (Option Value)}
    (a21 : PySem.W.nsIn K mainGlobals "_law_dials" = some (some (.ref f_21))) (l21 : K.lookup f_21 = some ⟨oc21, od21, .func (PySem.W.fnOf "_law_dials" "_law_dials" (defArgs s_law_dials) (defBody s_law_dials) (defScope s_law_dials) .none kV21 dc21 pm21 an21 cd21 ct21), sl21⟩) (c21 : PySem.W.codeIn K cd21 "_law_dials" = true) (k21 : PySem.W.keepIn K (.ref f_21) = true)
    {f_22 : Addr} {oc22 kV22 dc22 pm22 cd22 ct22 : Value} {od22 an22 : Option Addr} {sl22 : Array (Option Value)}
    (a22 : PySem.W.nsIn K mainGlobals "_law_name" = some (some (.ref f_22))) (l22 : K.lookup f_22 = some ⟨oc22, od22, .func (PySem.W.fnOf "_law_name" "_law_name" (defArgs s_law_name) (defBody s_law_name) (defScope s_law_name) .none kV22 dc22 pm22 an22 cd22 ct22), sl22⟩) (c22 : PySem.W.codeIn K cd22 "_law_name" = true) (k22 : PySem.W.keepIn K (.ref f_22) = true)
    {f_23 : Addr} {oc23 kV23 dc23 pm23 cd23 ct23 : Value} {od23 an23 : Option Addr} {sl23 : Array (Option Value)}
    (a23 : PySem.W.nsIn K mainGlobals "_law_table" = some (some (.ref f_23))) (l23 : K.lookup f_23 = some ⟨oc23, od23, .func (PySem.W.fnOf "_law_table" "_law_table" (defArgs s_law_table) (defBody s_law_table) (defScope s_law_table) .none kV23 dc23 pm23 an23 cd23 ct23), sl23⟩) (c23 : PySem.W.codeIn K cd23 "_law_table" = true) (k23 : PySem.W.keepIn K (.ref f_23) = true)
    {f_24 : Addr} {oc24 kV24 dc24 pm24 cd24 ct24 : Value} {od24 an24 : Option Addr} {sl24 : Array (Option Value)}
    (a24 : PySem.W.nsIn K mainGlobals "_law_corners" = some (some (.ref f_24))) (l24 : K.lookup f_24 = some ⟨oc24, od24, .func (PySem.W.fnOf "_law_corners" "_law_corners" (defArgs s_law_corners) (defBody s_law_corners) (defScope s_law_corners) .none kV24 dc24 pm24 an24 cd24 ct24), sl24⟩) (c24 : PySem.W.codeIn K cd24 "_law_corners" = true) (k24 : PySem.W.keepIn K (.ref f_24) = true)
    {f_25 : Addr} {oc25 kV25 dc25 pm25 cd25 ct25 : Value} {od25 an25 : Option Addr} {sl25 : Array (Option Value)}
    (a25 : PySem.W.nsIn K mainGlobals "_law_beside" = some (some (.ref f_25))) (l25 : K.lookup f_25 = some ⟨oc25, od25, .func (PySem.W.fnOf "_law_beside" "_law_beside" (defArgs s_law_beside) (defBody s_law_beside) (defScope s_law_beside) .none kV25 dc25 pm25 an25 cd25 ct25), sl25⟩) (c25 : PySem.W.codeIn K cd25 "_law_beside" = true) (k25 : PySem.W.keepIn K (.ref f_25) = true)
    {f_26 : Addr} {oc26 kV26 dc26 pm26 cd26 ct26 : Value} {od26 an26 : Option Addr} {sl26 : Array (Option Value)}
    (a26 : PySem.W.nsIn K mainGlobals "_law_point_of" = some (some (.ref f_26))) (l26 : K.lookup f_26 = some ⟨oc26, od26, .func (PySem.W.fnOf "_law_point_of" "_law_point_of" (defArgs s_law_point_of) (defBody s_law_point_of) (defScope s_law_point_of) .none kV26 dc26 pm26 an26 cd26 ct26), sl26⟩) (c26 : PySem.W.codeIn K cd26 "_law_point_of" = true) (k26 : PySem.W.keepIn K (.ref f_26) = true)
    {f_27 : Addr} {oc27 kV27 dc27 pm27 cd27 ct27 : Value} {od27 an27 : Option Addr} {sl27 : Array (Option Value)}
    (a27 : PySem.W.nsIn K mainGlobals "_law_points" = some (some (.ref f_27))) (l27 : K.lookup f_27 = some ⟨oc27, od27, .func (PySem.W.fnOf "_law_points" "_law_points" (defArgs s_law_points) (defBody s_law_points) (defScope s_law_points) .none kV27 dc27 pm27 an27 cd27 ct27), sl27⟩) (c27 : PySem.W.codeIn K cd27 "_law_points" = true) (k27 : PySem.W.keepIn K (.ref f_27) = true)
    {f_28 : Addr} {oc28 kV28 dc28 pm28 cd28 ct28 : Value} {od28 an28 : Option Addr} {sl28 : Array (Option Value)}
    (a28 : PySem.W.nsIn K mainGlobals "_law_labels" = some (some (.ref f_28))) (l28 : K.lookup f_28 = some ⟨oc28, od28, .func (PySem.W.fnOf "_law_labels" "_law_labels" (defArgs s_law_labels) (defBody s_law_labels) (defScope s_law_labels) .none kV28 dc28 pm28 an28 cd28 ct28), sl28⟩) (c28 : PySem.W.codeIn K cd28 "_law_labels" = true) (k28 : PySem.W.keepIn K (.ref f_28) = true)
    {f_29 : Addr} {oc29 kV29 dc29 pm29 cd29 ct29 : Value} {od29 an29 : Option Addr} {sl29 : Array (Option Value)}
    (a29 : PySem.W.nsIn K mainGlobals "_law_is_one_of" = some (some (.ref f_29))) (l29 : K.lookup f_29 = some ⟨oc29, od29, .func (PySem.W.fnOf "_law_is_one_of" "_law_is_one_of" (defArgs s_law_is_one_of) (defBody s_law_is_one_of) (defScope s_law_is_one_of) .none kV29 dc29 pm29 an29 cd29 ct29), sl29⟩) (c29 : PySem.W.codeIn K cd29 "_law_is_one_of" = true) (k29 : PySem.W.keepIn K (.ref f_29) = true)
    {f_30 : Addr} {oc30 kV30 dc30 pm30 cd30 ct30 : Value} {od30 an30 : Option Addr} {sl30 : Array (Option Value)}
    (a30 : PySem.W.nsIn K mainGlobals "_law_odd" = some (some (.ref f_30))) (l30 : K.lookup f_30 = some ⟨oc30, od30, .func (PySem.W.fnOf "_law_odd" "_law_odd" (defArgs s_law_odd) (defBody s_law_odd) (defScope s_law_odd) .none kV30 dc30 pm30 an30 cd30 ct30), sl30⟩) (c30 : PySem.W.codeIn K cd30 "_law_odd" = true) (k30 : PySem.W.keepIn K (.ref f_30) = true)
    {f_31 : Addr} {oc31 kV31 dc31 pm31 cd31 ct31 : Value} {od31 an31 : Option Addr} {sl31 : Array (Option Value)}
    (a31 : PySem.W.nsIn K mainGlobals "_law_bent" = some (some (.ref f_31))) (l31 : K.lookup f_31 = some ⟨oc31, od31, .func (PySem.W.fnOf "_law_bent" "_law_bent" (defArgs s_law_bent) (defBody s_law_bent) (defScope s_law_bent) .none kV31 dc31 pm31 an31 cd31 ct31), sl31⟩) (c31 : PySem.W.codeIn K cd31 "_law_bent" = true) (k31 : PySem.W.keepIn K (.ref f_31) = true)
    {f_32 : Addr} {oc32 kV32 dc32 pm32 cd32 ct32 : Value} {od32 an32 : Option Addr} {sl32 : Array (Option Value)}
    (a32 : PySem.W.nsIn K mainGlobals "law" = some (some (.ref f_32))) (l32 : K.lookup f_32 = some ⟨oc32, od32, .func (PySem.W.fnOf "law" "law" (defArgs s_law) (defBody s_law) (defScope s_law) .none kV32 dc32 pm32 an32 cd32 ct32), sl32⟩) (c32 : PySem.W.codeIn K cd32 "law" = true) (k32 : PySem.W.keepIn K (.ref f_32) = true)
    (z_abs : PySem.W.nsIn K mainGlobals "abs" = some none)
    (z_bool : PySem.W.nsIn K mainGlobals "bool" = some none)
    (z_enumerate : PySem.W.nsIn K mainGlobals "enumerate" = some none)
    (z_int : PySem.W.nsIn K mainGlobals "int" = some none)
    (z_isinstance : PySem.W.nsIn K mainGlobals "isinstance" = some none)
    (z_len : PySem.W.nsIn K mainGlobals "len" = some none)
    (z_list : PySem.W.nsIn K mainGlobals "list" = some none)
    (z_range : PySem.W.nsIn K mainGlobals "range" = some none)
    (z_repr : PySem.W.nsIn K mainGlobals "repr" = some none)
    (z_set : PySem.W.nsIn K mainGlobals "set" = some none)
    (z_sorted : PySem.W.nsIn K mainGlobals "sorted" = some none)
    (z_str : PySem.W.nsIn K mainGlobals "str" = some none)
    (z_tuple : PySem.W.nsIn K mainGlobals "tuple" = some none)
    {tc_WAYS : Addr} {to_WAYS : Option Addr} {ti_WAYS : Array Value} {tn_WAYS : Nat} {ts_WAYS : Array (Option Value)}
    (ta_WAYS : PySem.W.nsIn K mainGlobals "WAYS" = some (some (.ref tc_WAYS))) (tl_WAYS : K.lookup tc_WAYS = some ⟨.type "tuple", to_WAYS, .seq ti_WAYS tn_WAYS, ts_WAYS⟩) (tz_WAYS : ti_WAYS.size ≤ 1000) (tv_WAYS : Vals [V.str "right", V.str "up", V.str "left", V.str "down"] ti_WAYS.toList)
    : ∃ fd : FuncData, (∀ (s : Shared) (v : Value), BindsTo s fd ⟨[v], []⟩ [("_law_script", v)]) ∧ ∀ base : Heap, K.In base → base.Ns mainGlobals mg → FnG l.prog w K mg base 6 fa fd ["_law_script"] (spLaw K) := by
  have e := hfa.symm.trans (PySem.W.mg_of X G a32)
  cases e
  exact ⟨PySem.W.fnOf "law" "law" (defArgs s_law) (defBody s_law) (defScope s_law) .none kV32 dc32 pm32 an32 cd32 ct32, fun s v => .of_eq rfl, fun base _ _ => ok_law (P := l.prog) (w := w) (base := base) (mkTX X G a0 l0 c0 k0 a1 l1 c1 k1 a2 l2 c2 k2 a3 l3 c3 k3 a4 l4 c4 k4 a5 l5 c5 k5 a6 l6 c6 k6 a7 l7 c7 k7 a8 l8 c8 k8 a9 l9 c9 k9 a10 l10 c10 k10 a11 l11 c11 k11 a12 l12 c12 k12 a13 l13 c13 k13 a14 l14 c14 k14 a15 l15 c15 k15 a16 l16 c16 k16 a17 l17 c17 k17 a18 l18 c18 k18 a19 l19 c19 k19 a20 l20 c20 k20 a21 l21 c21 k21 a22 l22 c22 k22 a23 l23 c23 k23 a24 l24 c24 k24 a25 l25 c25 k25 a26 l26 c26 k26 a27 l27 c27 k27 a28 l28 c28 k28 a29 l29 c29 k29 a30 l30 c30 k30 a31 l31 c31 k31 a32 l32 c32 k32 z_abs z_bool z_enumerate z_int z_isinstance z_len z_list z_range z_repr z_set z_sorted z_str z_tuple ta_WAYS tl_WAYS tz_WAYS tv_WAYS) hm⟩
end DL
open PySem PySem.W PyProof.Rows
set_option maxHeartbeats 0 in
theorem PySem.Challenge.cw_hownarrow_k03_edges_corners_labels_of_an_holds : PySem.Challenge.rw_hownarrow_k03_edges_corners_labels_of_an.Holds := by
  w_on; o_law; k_head; (case hw => w_witness2)
  k_fill
  refine DL.walkG (l := PySem.Challenge.rw_hownarrow_k03_edges_corners_labels_of_an) (n := 63) (k := 6) (x := "_law_script") (sp := fun w => DL.spLaw _) rfl (by decide) rfl ⟨rfl, by decide, by decide⟩ (fun w h Y => PySem.W.kIn_of Y) ?F (fun _ _ a ns hl _ hS => ⟨a, ns, rfl, hl, hS, fun _ => rfl⟩)
  case F =>
    intro w mg fa h KX G hmg
    refine' DL.all_mk DL.law_true KX G hmg ?a0 ?l0 ?c0 ?k0 ?a1 ?l1 ?c1 ?k1 ?a2 ?l2 ?c2 ?k2 ?a3 ?l3 ?c3 ?k3 ?a4 ?l4 ?c4 ?k4 ?a5 ?l5 ?c5 ?k5 ?a6 ?l6 ?c6 ?k6 ?a7 ?l7 ?c7 ?k7 ?a8 ?l8 ?c8 ?k8 ?a9 ?l9 ?c9 ?k9 ?a10 ?l10 ?c10 ?k10 ?a11 ?l11 ?c11 ?k11 ?a12 ?l12 ?c12 ?k12 ?a13 ?l13 ?c13 ?k13 ?a14 ?l14 ?c14 ?k14 ?a15 ?l15 ?c15 ?k15 ?a16 ?l16 ?c16 ?k16 ?a17 ?l17 ?c17 ?k17 ?a18 ?l18 ?c18 ?k18 ?a19 ?l19 ?c19 ?k19 ?a20 ?l20 ?c20 ?k20 ?a21 ?l21 ?c21 ?k21 ?a22 ?l22 ?c22 ?k22 ?a23 ?l23 ?c23 ?k23 ?a24 ?l24 ?c24 ?k24 ?a25 ?l25 ?c25 ?k25 ?a26 ?l26 ?c26 ?k26 ?a27 ?l27 ?c27 ?k27 ?a28 ?l28 ?c28 ?k28 ?a29 ?l29 ?c29 ?k29 ?a30 ?l30 ?c30 ?k30 ?a31 ?l31 ?c31 ?k31 ?a32 ?l32 ?c32 ?k32 ?z_abs ?z_bool ?z_enumerate ?z_int ?z_isinstance ?z_len ?z_list ?z_range ?z_repr ?z_set ?z_sorted ?z_str ?z_tuple ?ta_WAYS ?tl_WAYS ?tz_WAYS ?tv_WAYS
    (case a0 => k_is); (case l0 => k_is); (case c0 => k_is); (case k0 => k_is); (case a1 => k_is); (case l1 => k_is); (case c1 => k_is); (case k1 => k_is); (case a2 => k_is); (case l2 => k_is); (case c2 => k_is); (case k2 => k_is); (case a3 => k_is); (case l3 => k_is); (case c3 => k_is); (case k3 => k_is); (case a4 => k_is); (case l4 => k_is); (case c4 => k_is); (case k4 => k_is); (case a5 => k_is); (case l5 => k_is); (case c5 => k_is); (case k5 => k_is); (case a6 => k_is); (case l6 => k_is); (case c6 => k_is); (case k6 => k_is); (case a7 => k_is); (case l7 => k_is); (case c7 => k_is); (case k7 => k_is); (case a8 => k_is); (case l8 => k_is); (case c8 => k_is); (case k8 => k_is); (case a9 => k_is); (case l9 => k_is); (case c9 => k_is); (case k9 => k_is); (case a10 => k_is); (case l10 => k_is); (case c10 => k_is); (case k10 => k_is); (case a11 => k_is); (case l11 => k_is); (case c11 => k_is); (case k11 => k_is); (case a12 => k_is); (case l12 => k_is); (case c12 => k_is); (case k12 => k_is); (case a13 => k_is); (case l13 => k_is); (case c13 => k_is); (case k13 => k_is); (case a14 => k_is); (case l14 => k_is); (case c14 => k_is); (case k14 => k_is); (case a15 => k_is); (case l15 => k_is); (case c15 => k_is); (case k15 => k_is); (case a16 => k_is); (case l16 => k_is); (case c16 => k_is); (case k16 => k_is); (case a17 => k_is); (case l17 => k_is); (case c17 => k_is); (case k17 => k_is); (case a18 => k_is); (case l18 => k_is); (case c18 => k_is); (case k18 => k_is); (case a19 => k_is); (case l19 => k_is); (case c19 => k_is); (case k19 => k_is); (case a20 => k_is); (case l20 => k_is); (case c20 => k_is); (case k20 => k_is); (case a21 => k_is); (case l21 => k_is); (case c21 => k_is); (case k21 => k_is); (case a22 => k_is); (case l22 => k_is); (case c22 => k_is); (case k22 => k_is); (case a23 => k_is); (case l23 => k_is); (case c23 => k_is); (case k23 => k_is); (case a24 => k_is); (case l24 => k_is); (case c24 => k_is); (case k24 => k_is); (case a25 => k_is); (case l25 => k_is); (case c25 => k_is); (case k25 => k_is); (case a26 => k_is); (case l26 => k_is); (case c26 => k_is); (case k26 => k_is); (case a27 => k_is); (case l27 => k_is); (case c27 => k_is); (case k27 => k_is); (case a28 => k_is); (case l28 => k_is); (case c28 => k_is); (case k28 => k_is); (case a29 => k_is); (case l29 => k_is); (case c29 => k_is); (case k29 => k_is); (case a30 => k_is); (case l30 => k_is); (case c30 => k_is); (case k30 => k_is); (case a31 => k_is); (case l31 => k_is); (case c31 => k_is); (case k31 => k_is); (case a32 => k_is); (case l32 => k_is); (case c32 => k_is); (case k32 => k_is); (case z_abs => k_is); (case z_bool => k_is); (case z_enumerate => k_is); (case z_int => k_is); (case z_isinstance => k_is); (case z_len => k_is); (case z_list => k_is); (case z_range => k_is); (case z_repr => k_is); (case z_set => k_is); (case z_sorted => k_is); (case z_str => k_is); (case z_tuple => k_is); (case ta_WAYS => k_is); (case tl_WAYS => k_is); (case tz_WAYS => decide); (case tv_WAYS => exact .cons ⟨_, rfl⟩ (.cons ⟨_, rfl⟩ (.cons ⟨_, rfl⟩ (.cons ⟨_, rfl⟩ (.nil)))))
