import PyProof.Rows.All
import Wide.All
import OpenK.AllK
import Wide.FinOn
import HandS.Base
import HandS.Call
import HandS.List
import HandS.Comp
import HandS.Ends
import HandS.Dict
import HandS.Iter
import HandS.Text
import HandS.More
import HandS.Exc
import HandS.TryOnly
import HandS.ExcOwn
import HandS.Words
import HandS.WordsList
import HandS.WordsExc
import HandS.Walk
import HandS.Style
import HandS.IsInst
import HandS.Deep
import HandS.Defaults
import HandS.Head0
import HandS.Head1
import HandS.Head2
import HandS.HeadEnd
import HandS.HeadHook1
import HandS.HeadHook2
import HandS.NoneIn
import KE.KDictKeyed
import KE.KDictWalk
import HandS.ExcValue
import HandS.ExcIs
import HandS.Conv
import HandS.Small
import HandS.SetKeys
import HandS.TupLen
import KE.KDictDisplayH
import KE.SortData
import OpenK.KOps
import PySem.Challenge.RW_carriedrests_k14_whole_desks
set_option Elab.async false
set_option maxRecDepth 100000
set_option maxHeartbeats 4000000
set_option linter.all false
namespace Tr
open PySem PySem.Spec PyProof.Rows L2

abbrev FP := Addr → Prop
abbrev Mu := List Addr

/-- what never changes: tuples, locked things -/
structure Kp (H H' : Hp) : Prop where
  tup : ∀ a xs, H a = some (.tup xs) → H' a = some (.tup xs)
  frz : ∀ a o u, H a = some (.frz o u) → H' a = some (.frz o u)
theorem Kp.refl (H : Hp) : Kp H H := ⟨fun _ _ h => h, fun _ _ _ h => h⟩
theorem Kp.trans {H H1 H2 : Hp} (a : Kp H H1) (b : Kp H1 H2) : Kp H H2 := ⟨fun x y h => b.tup x y (a.tup x y h), fun x y z h => b.frz x y z (a.frz x y z h)⟩

/-- a locked list, or one of the text -/
def FzL (_K : PySem.W.Frag) (H : Hp) (a : Addr) (xs : List V) : Prop := ∃ o, H a = some (.frz o (.lst xs))
def FzT (K : PySem.W.Frag) (H : Hp) (a : Addr) (xs : List V) : Prop := H a = some (.tup xs) ∨ SqT K (fun _ => none) a xs
theorem sqL_text {K : PySem.W.Frag} {H : Hp} {a : Addr} {xs : List V} (h : SqL K (fun _ => none) a xs) : SqL K H a xs := by
  rcases h with (h | ⟨o, h⟩) | h
  · cases h
  · cases h
  · exact .inr h
theorem sqT_text {K : PySem.W.Frag} {H : Hp} {a : Addr} {xs : List V} (h : SqT K (fun _ => none) a xs) : SqT K H a xs := by
  rcases h with (h | ⟨o, h⟩) | h
  · cases h
  · cases h
  · exact .inr h
theorem FzL.sq {K : PySem.W.Frag} {H : Hp} {a : Addr} {xs : List V} (h : FzL K H a xs) : SqL K H a xs := by
  obtain ⟨o, h⟩ := h
  exact .inl (.inr ⟨o, h⟩)
theorem FzT.sq {K : PySem.W.Frag} {H : Hp} {a : Addr} {xs : List V} (h : FzT K H a xs) : SqT K H a xs := by
  rcases h with h | h
  · exact .inl (.inl h)
  · exact sqT_text h
theorem FzL.kp {K : PySem.W.Frag} {H H' : Hp} {a : Addr} {xs : List V} (k : Kp H H') (h : FzL K H a xs) : FzL K H' a xs := by
  obtain ⟨o, h⟩ := h
  exact ⟨o, k.frz _ _ _ h⟩
theorem FzT.kp {K : PySem.W.Frag} {H H' : Hp} {a : Addr} {xs : List V} (k : Kp H H') (h : FzT K H a xs) : FzT K H' a xs := by
  rcases h with h | h
  · exact .inl (k.tup _ _ h)
  · exact .inr h

/-! ### keys that are tuples of ints, nested -/
mutual
def nkey : PyData → Option NestedKey
  | .int i => some (.num i)
  | .tuple ds => (nkeys ds).map .tup
  | _ => none
def nkeys : List PyData → Option (List NestedKey)
  | [] => some []
  | d :: ds => match nkey d, nkeys ds with
    | some k, some ks => some (k :: ks)
    | _, _ => none
end
mutual
def hN : NestedKey → Int
  | .none => 0
  | .num i => hashInt i
  | .text _ => 0
  | .tup ks => reduceHash (Builtin.Tuple.tupleHashOf (hNs ks))
def hNs : List NestedKey → List Int
  | [] => []
  | k :: ks => hN k :: hNs ks
end
mutual
theorem hN_ok {w : World} : ∀ (d : PyData) {k : NestedKey}, nkey d = some k → k.hash w = hN k
  | .int i, k, h => by
    have e : k = .num i := (Option.some.inj h).symm
    subst e
    rw [NestedKey.hash, hN]
  | .tuple ds, k, h => by
    rw [nkey] at h
    obtain ⟨ks, e, rfl⟩ := Option.map_eq_some_iff.mp h
    rw [NestedKey.hash, hN, hNs_ok ds e]
  | .none, _, h => by rw [nkey] at h <;> first | (cases h) | simp
  | .bool _, _, h => by rw [nkey] at h <;> first | (cases h) | simp
  | .str _, _, h => by rw [nkey] at h <;> first | (cases h) | simp
  | .list _, _, h => by rw [nkey] at h <;> first | (cases h) | simp
  | .dict _, _, h => by rw [nkey] at h <;> first | (cases h) | simp
theorem hNs_ok {w : World} : ∀ (ds : List PyData) {ks : List NestedKey}, nkeys ds = some ks → NestedKey.hashes w ks = hNs ks
  | [], ks, h => by
    rw [nkeys] at h
    cases h
    rw [NestedKey.hashes, hNs]
  | d :: ds, ks, h => by
    rw [nkeys] at h
    split at h
    · rename_i k ks' e1 e2
      cases h
      rw [NestedKey.hashes, hNs, hN_ok d e1, hNs_ok ds e2]
    · cases h
end
def entN (x : NestedKey × Addr × Value) : DictEntry := ⟨hN x.1, .ref x.2.1, x.2.2⟩
/-- a dict of such keys -/
def dicP (d : Addr) (xs : List (PyData × Addr × V)) (h : Heap) : Prop := xs.length ≤ sizeLine ∧ (d == sysModules) = false ∧ ∃ ys : List (NestedKey × Addr × Value), Paired (fun p q => nkey p.1 = some q.1 ∧ q.1.depth ≤ 8 ∧ p.2.1 = q.2.1 ∧ RelV p.2.2 q.2.2) xs ys ∧
  ∃ o es ep, h.get? d = some o ∧ o.ExactDict ∧ o.data = .dict es ep ∧ es.toList = ys.map entN ∧ (ys.map (·.1)).Nodup
def DicO (d : Addr) (xs : List (PyData × Addr × V)) : HO := .ext (dicP d xs)
def kD : Key → PyData
  | .inl i => .int i
  | .inr x => .str x
/-- a dict's entries: the key's value, the key, the value -/
inductive DOf (a : Addr) : HO → List (V × PyData × V) → Prop
  | k (kvs : List (Key × V)) : DOf a (.dK kvs) (kvs.map fun p => (kV p.1, kD p.1, p.2))
  | t (ys : List (PyData × Addr × V)) : DOf a (DicO a ys) (ys.map fun p => (.ref p.2.1, p.1, p.2.2))

mutual
/-- the value v is the plain datum d, for ever -/
inductive Rp (K : PySem.W.Frag) (H : Hp) : V → PyData → Prop
  | non : Rp K H .non .none
  | bl (b : Bool) : Rp K H (.bl b) (.bool b)
  | int (i : Int) : Rp K H (.int i) (.int i)
  | str (x : Str) : Rp K H (.str x) (.str x)
  | lst {a : Addr} {xs : List V} {ds : List PyData} : FzL K H a xs → RpL K H xs ds → Rp K H (.ref a) (.list ds)
  | tup {a : Addr} {xs : List V} {ds : List PyData} : FzT K H a xs → RpL K H xs ds → Rp K H (.ref a) (.tuple ds)
  | dct {a : Addr} {o : Obj} {u : HO} {xs : List (V × PyData × V)} {es : List (PyData × PyData)} : H a = some (.frz o u) → DOf a u xs → RpD K H xs es → Rp K H (.ref a) (.dict es)
inductive RpL (K : PySem.W.Frag) (H : Hp) : List V → List PyData → Prop
  | nil : RpL K H [] []
  | cons {v : V} {vs : List V} {d : PyData} {ds : List PyData} : Rp K H v d → RpL K H vs ds → RpL K H (v :: vs) (d :: ds)
inductive RpD (K : PySem.W.Frag) (H : Hp) : List (V × PyData × V) → List (PyData × PyData) → Prop
  | nil : RpD K H [] []
  | cons {kv v : V} {kd d : PyData} {xs : List (V × PyData × V)} {es : List (PyData × PyData)} : Rp K H kv kd → Rp K H v d → RpD K H xs es → RpD K H ((kv, kd, v) :: xs) ((kd, d) :: es)
end
section
variable {K : PySem.W.Frag} {H H' : Hp}
mutual
theorem Rp.kpP (k : Kp H H') : ∀ {d : PyData} {v : V}, Rp K H v d → Rp K H' v d
  | _, _, .non => .non
  | _, _, .bl b => .bl b
  | _, _, .int i => .int i
  | _, _, .str x => .str x
  | _, _, .lst a b => .lst (a.kp k) (RpL.kpP k b)
  | _, _, .tup a b => .tup (a.kp k) (RpL.kpP k b)
  | _, _, .dct a b c => .dct (k.frz _ _ _ a) b (RpD.kpP k c)
theorem RpL.kpP (k : Kp H H') : ∀ {ds : List PyData} {vs : List V}, RpL K H vs ds → RpL K H' vs ds
  | _, _, .nil => .nil
  | _, _, .cons a b => .cons (Rp.kpP k a) (RpL.kpP k b)
theorem RpD.kpP (k : Kp H H') : ∀ {es : List (PyData × PyData)} {xs : List (V × PyData × V)}, RpD K H xs es → RpD K H' xs es
  | _, _, .nil => .nil
  | _, _, .cons a b c => .cons (Rp.kpP k a) (Rp.kpP k b) (RpD.kpP k c)
end
theorem Rp.kp (k : Kp H H') (d : PyData) {v : V} (h : Rp K H v d) : Rp K H' v d := h.kpP k
theorem RpL.kp (k : Kp H H') (ds : List PyData) {vs : List V} (h : RpL K H vs ds) : RpL K H' vs ds := h.kpP k
theorem RpD.kp (k : Kp H H') (es : List (PyData × PyData)) {xs : List (V × PyData × V)} (h : RpD K H xs es) : RpD K H' xs es := h.kpP k
mutual
/-- no dict within -/
theorem Rp.dp : ∀ (d : PyData) {v : V}, d.canLay0 = true → Rp K H v d → Dp K H v d
  | .none, _, _, h => by cases h; exact .non
  | .bool b, _, _, h => by cases h; exact .bl b
  | .int i, _, _, h => by cases h; exact .int i
  | .str x, _, _, h => by cases h; exact .str x
  | .list ds, _, e, h => by
    rw [PyData.canLay0] at e
    cases h with | lst a b => exact .lst a.sq (RpL.dp ds e b)
  | .tuple ds, _, e, h => by
    rw [PyData.canLay0] at e
    cases h with | tup a b => exact .tup a.sq (RpL.dp ds e b)
  | .dict _, _, e, h => by rw [PyData.canLay0] at e; cases e
theorem RpL.dp : ∀ (ds : List PyData) {vs : List V}, PyData.canLayAll0 ds = true → RpL K H vs ds → DpAll K H vs ds
  | [], _, _, h => by cases h; exact .nil
  | d :: ds, _, e, h => by
    rw [PyData.canLayAll0, Bool.and_eq_true] at e
    cases h with | cons a b => exact .cons (Rp.dp d e.1 a) (RpL.dp ds e.2 b)
end
theorem RpL.length : ∀ {ds : List PyData} {vs : List V}, RpL K H vs ds → vs.length = ds.length
  | [], _, h => by cases h; rfl
  | d :: ds, _, h => by cases h with | cons a b => rw [List.length_cons, List.length_cons, RpL.length b]
theorem RpL.get : ∀ {ds : List PyData} {vs : List V} {i : Nat} {d : PyData}, RpL K H vs ds → ds[i]? = some d → ∃ v, vs[i]? = some v ∧ Rp K H v d
  | [], _, _, _, h, e => by simp at e
  | x :: ds, _, 0, d, h, e => by
    cases h with
    | cons a b => simp at e; subst e; exact ⟨_, rfl, a⟩
  | x :: ds, _, i + 1, d, h, e => by
    cases h with
    | cons a b =>
      obtain ⟨v, h1, h2⟩ := RpL.get (i := i) (d := d) b (by simpa using e)
      exact ⟨v, by simpa using h1, h2⟩
theorem RpL.getV : ∀ {ds : List PyData} {vs : List V} {i : Nat} {v : V}, RpL K H vs ds → vs[i]? = some v → ∃ d, ds[i]? = some d ∧ Rp K H v d := fun {ds vs i v} h e => by
  have hl := h.length
  have hi := (List.getElem?_eq_some_iff.mp e).1
  obtain ⟨w, h1, h2⟩ := h.get (i := i) (d := ds[i]'(by omega)) (by simp)
  rw [e] at h1; cases h1
  exact ⟨_, by simp, h2⟩
theorem RpL.append : ∀ {ds es : List PyData} {vs ws : List V}, RpL K H vs ds → RpL K H ws es → RpL K H (vs ++ ws) (ds ++ es)
  | [], _, _, _, h, g => by cases h; exact g
  | d :: ds, _, _, _, h, g => by cases h with | cons a b => exact .cons a (RpL.append b g)
theorem RpL.take : ∀ {ds : List PyData} {vs : List V} (n : Nat), RpL K H vs ds → RpL K H (vs.take n) (ds.take n)
  | _, _, 0, _ => .nil
  | [], _, n + 1, h => by cases h; exact .nil
  | d :: ds, _, n + 1, h => by cases h with | cons a b => exact .cons a (RpL.take n b)
theorem RpL.drop : ∀ {ds : List PyData} {vs : List V} (n : Nat), RpL K H vs ds → RpL K H (vs.drop n) (ds.drop n)
  | _, _, 0, h => h
  | [], _, n + 1, h => by cases h; exact .nil
  | d :: ds, _, n + 1, h => by cases h with | cons a b => exact RpL.drop n b
theorem RpL.set : ∀ {ds : List PyData} {vs : List V} {v : V} {d : PyData} (i : Nat), RpL K H vs ds → Rp K H v d → RpL K H (vs.set i v) (ds.set i d)
  | [], _, _, _, _, h, _ => by cases h; exact .nil
  | x :: ds, _, _, _, 0, h, g => by cases h with | cons a b => exact .cons g b
  | x :: ds, _, _, _, i + 1, h, g => by cases h with | cons a b => exact .cons a (RpL.set i b g)
theorem RpL.rep {ds : List PyData} {vs : List V} (h : RpL K H vs ds) : ∀ n : Nat, RpL K H (List.replicate n vs).flatten (List.replicate n ds).flatten
  | 0 => .nil
  | n + 1 => by
    rw [List.replicate_succ, List.replicate_succ, List.flatten_cons, List.flatten_cons]
    exact h.append (RpL.rep h n)
theorem RpL.reverse : ∀ {ds : List PyData} {vs : List V}, RpL K H vs ds → RpL K H vs.reverse ds.reverse
  | [], _, h => by cases h; exact .nil
  | d :: ds, _, h => by
    cases h with
    | cons a b =>
      rw [List.reverse_cons, List.reverse_cons]
      exact (RpL.reverse b).append (.cons a .nil)
theorem RpL.ints : ∀ {ns : List Int}, RpL K H (ns.map V.int) (ns.map PyData.int)
  | [] => .nil
  | n :: r => .cons (.int n) RpL.ints
/-- a list of ints is what it says -/
theorem RpL.intsV : ∀ {ns : List Int} {vs : List V}, RpL K H vs (ns.map PyData.int) → vs = ns.map V.int
  | [], _, h => by cases h; rfl
  | n :: r, _, h => by
    cases h with
    | cons a b => cases a; rw [RpL.intsV b]; rfl
theorem RpL.strsV : ∀ {ns : List Str} {vs : List V}, RpL K H vs (ns.map PyData.str) → vs = ns.map V.str
  | [], _, h => by cases h; rfl
  | n :: r, _, h => by
    cases h with
    | cons a b => cases a; rw [RpL.strsV b]; rfl
end

/-! ### what a slot holds: a datum, a list of its own, a thing of the store -/
inductive O where
  | d (x : PyData)
  | lst (xs : List PyData)
  | obj (k : Nat)
  /-- a caught exception of a class of the text -/
  | xcp (c : Str)
  /-- a tuple of two lists of one's own -/
  | tl (xs ys : List PyData)
  /-- a dict of one's own -/
  | dct (es : List (PyData × PyData))
  /-- a dict of lists of one's own -/
  | dcl (es : List (PyData × List PyData))

/-- lists of one's own, apart from one another -/
inductive DclR (K : PySem.W.Frag) (H : Hp) (F : FP) : List (V × PyData × V) → List (PyData × List PyData) → Prop
  | nil : DclR K H F [] []
  | cons {kv : V} {kd : PyData} {b : Addr} {vs : List V} {ds : List PyData} {xs : List (V × PyData × V)} {es : List (PyData × List PyData)} : Rp K H kv kd → H b = some (.lst vs) → RpL K H vs ds → F b → (∀ x ∈ xs, x.2.2 ≠ .ref b) → DclR K H F xs es →
    DclR K H F ((kv, kd, .ref b) :: xs) ((kd, ds) :: es)

inductive Own (K : PySem.W.Frag) (μ : Mu) (H : Hp) (F : FP) : V → O → Prop
  | d {v : V} {x : PyData} : Rp K H v x → Own K μ H F v (.d x)
  | lst {a : Addr} {xs : List V} {ds : List PyData} : H a = some (.lst xs) → RpL K H xs ds → F a → Own K μ H F (.ref a) (.lst ds)
  | obj {a : Addr} {k : Nat} : μ[k]? = some a → Own K μ H F (.ref a) (.obj k)
  | xcp {a : Addr} {c : Str} {oe : Obj} {u : HO} : H a = some (.frz oe u) → Zc (.ref (He.ga K c)) none oe → (∃ vs, oe.data = .fields vs) → Own K μ H F (.ref a) (.xcp c)
  | tl {a b c : Addr} {xs ys : List V} {ds es : List PyData} : H a = some (.tup [.ref b, .ref c]) → H b = some (.lst xs) → H c = some (.lst ys) → RpL K H xs ds → RpL K H ys es → F b → F c → b ≠ c → Own K μ H F (.ref a) (.tl ds es)
  | dct {a : Addr} {u : HO} {xs : List (V × PyData × V)} {es : List (PyData × PyData)} : H a = some u → DOf a u xs → RpD K H xs es → F a → Own K μ H F (.ref a) (.dct es)
  | dcl {a : Addr} {u : HO} {xs : List (V × PyData × V)} {es : List (PyData × List PyData)} : H a = some u → DOf a u xs → DclR K H F xs es → F a → Own K μ H F (.ref a) (.dcl es)

/-- a thing of the store -/
inductive Cell where
  /-- the law's script -/
  | scr (ns : List Int)
  /-- a list that may change: data, things of the store -/
  | lst (os : List O)
  /-- a dict that may change -/
  | dct (es : List (PyData × PyData))
  /-- an instance of a class of the text -/
  | ins (c : Str) (fs : List (Str × O))
inductive OwnC (K : PySem.W.Frag) (μ : Mu) (H : Hp) (F : FP) : Addr → Cell → Prop
  | scr {a : Addr} {ns : List Int} : ((∃ o, H a = some (.frz o (.lst (ns.map V.int)))) ∨ SqL K (fun _ => none) a (ns.map V.int)) → OwnC K μ H F a (.scr ns)
  | lst {a : Addr} {vs : List V} {os : List O} : H a = some (.lst vs) → Paired (Own K μ H (fun _ => False)) vs os → F a → OwnC K μ H F a (.lst os)
  | dct {a : Addr} {u : HO} {xs : List (V × PyData × V)} {es : List (PyData × PyData)} : H a = some u → DOf a u xs → RpD K H xs es → F a → OwnC K μ H F a (.dct es)
  | ins {a dx : Addr} {c : Str} {vs : List (Str × V)} {fs : List (Str × O)} : H a = some (.ins (He.ga K c) dx vs) → H dx = some (.own a) → Paired (fun (v : Str × V) (f : Str × O) => v.1 = f.1 ∧ Own K μ H (fun _ => False) v.2 f.2) vs fs → F a → F dx → OwnC K μ H F a (.ins c fs)

structure St where
  loc : List (Option O)
  g : List Cell

structure Ext (H : Hp) (F : FP) (H' : Hp) (F' : FP) : Prop where
  out : ∀ a o, H a = some o → ¬ F a → H' a = some o
  kp : Kp H H'
  new : ∀ a, F' a → H a = none ∨ F a

structure Rep (K : PySem.W.Frag) (σ : L2.St) (μ : Mu) (H : Hp) (F : FP) (st : St) : Prop where
  ex : ∃ S R : Nat → FP,
    (∀ i o, st.loc[i]? = some (some o) → ∃ v, σ[i]? = some (some v) ∧ Own K μ H (S i) v o) ∧
    (∀ k c, st.g[k]? = some c → ∃ a, μ[k]? = some a ∧ OwnC K μ H (R k) a c) ∧
    (∀ i j a, S i a → S j a → i = j) ∧ (∀ k l a, R k a → R l a → k = l) ∧ (∀ i k a, S i a → R k a → False) ∧
    (∀ i a, S i a → F a) ∧ (∀ k a, R k a → F a)
  live : ∀ a, F a → H a ≠ none
  mu : μ.length = st.g.length
  len : st.loc.length = σ.length

section
variable {K : PySem.W.Frag} {σ : L2.St} {μ μ' : Mu} {H H' H1 H2 : Hp} {F F' F1 F2 G : FP} {st : St} {v : V} {o : O}
theorem DclR.step {xs : List (V × PyData × V)} {es : List (PyData × List PyData)} (h : DclR K H F xs es) (e : ∀ a, F a → H' a = H a) (k : Kp H H') : DclR K H' F xs es := by
  induction h with
  | nil => exact .nil
  | cons a b c d f _ ih => exact .cons (a.kpP k) ((e _ d).trans b) (c.kpP k) d f ih
theorem DclR.mono {xs : List (V × PyData × V)} {es : List (PyData × List PyData)} (h : DclR K H F xs es) (e : ∀ a, F a → F' a) : DclR K H F' xs es := by
  induction h with
  | nil => exact .nil
  | cons a b c d f _ ih => exact .cons a b c (e _ d) f ih
theorem Own.step (h : Own K μ H F v o) (m : μ <+: μ') (e : ∀ a, F a → H' a = H a) (k : Kp H H') : Own K μ' H' F v o := by
  cases h with
  | d r => exact .d (r.kp k)
  | lst h1 h2 h3 => exact .lst ((e _ h3).trans h1) (RpL.kp k _ h2) h3
  | xcp h1 h2 h3 => exact .xcp (k.frz _ _ _ h1) h2 h3
  | tl h0 h1 h2 h3 h4 h5 h6 h7 => exact .tl (k.tup _ _ h0) ((e _ h5).trans h1) ((e _ h6).trans h2) (RpL.kp k _ h3) (RpL.kp k _ h4) h5 h6 h7
  | dct h1 h2 h3 h4 => exact .dct ((e _ h4).trans h1) h2 (RpD.kp k _ h3) h4
  | dcl h1 h2 h3 h4 => exact .dcl ((e _ h4).trans h1) h2 (h3.step e k) h4
  | obj h =>
    refine .obj ?_
    obtain ⟨t, rfl⟩ := m
    rw [List.getElem?_append_left (List.getElem?_eq_some_iff.mp h).1]
    exact h
theorem Own.mono (h : Own K μ H F v o) (e : ∀ a, F a → F' a) : Own K μ H F' v o := by
  cases h with
  | d r => exact .d r
  | lst h1 h2 h3 => exact .lst h1 h2 (e _ h3)
  | xcp h1 h2 h3 => exact .xcp h1 h2 h3
  | tl h0 h1 h2 h3 h4 h5 h6 h7 => exact .tl h0 h1 h2 h3 h4 (e _ h5) (e _ h6) h7
  | dct h1 h2 h3 h4 => exact .dct h1 h2 h3 (e _ h4)
  | dcl h1 h2 h3 h4 => exact .dcl h1 h2 (h3.mono e) (e _ h4)
  | obj h => exact .obj h
theorem Own.steps {vs : List V} {os : List O} (h : Paired (Own K μ H (fun _ => False)) vs os) (m : μ <+: μ') (k : Kp H H') : Paired (Own K μ' H' (fun _ => False)) vs os := by
  induction h with
  | nil => exact .nil
  | cons a b ih => exact .cons (a.step m (fun _ z => z.elim) k) ih
theorem OwnC.step {a : Addr} {c : Cell} (h : OwnC K μ H F a c) (m : μ <+: μ') (e : ∀ a, F a → H' a = H a) (k : Kp H H') : OwnC K μ' H' F a c := by
  cases h with
  | scr h => exact .scr (h.imp (fun ⟨o, z⟩ => ⟨o, k.frz _ _ _ z⟩) id)
  | lst h1 h2 h3 => exact .lst ((e _ h3).trans h1) (Own.steps h2 m k) h3
  | dct h1 h2 h3 h4 => exact .dct ((e _ h4).trans h1) h2 (RpD.kp k _ h3) h4
  | ins h1 h2 h3 h4 h5 => exact .ins ((e _ h4).trans h1) ((e _ h5).trans h2) (L2.Paired.mapP h3 fun v f z => ⟨z.1, z.2.step m (fun _ z => z.elim) k⟩) h4 h5

theorem Ext.refl (h : ∀ a, F' a → F a) : Ext H F H F' := ⟨fun _ _ h _ => h, Kp.refl H, fun a z => .inr (h a z)⟩
theorem Ext.trans (a : Ext H F H1 F1) (b : Ext H1 F1 H2 F2) : Ext H F H2 F2 where
  out := fun x u h n => b.out x u (a.out x u h n) fun z => (a.new x z).elim (fun q => by rw [q] at h; cases h) n
  kp := a.kp.trans b.kp
  new := fun x z => by
    rcases b.new x z with q | q
    · cases e : H x with
      | none => exact .inl rfl
      | some u =>
        by_cases n : F x
        · exact .inr n
        · rw [a.out x u e n] at q; cases q
    · exact a.new x q
/-- what stands aside stays aside -/
theorem Ext.frame (a : Ext H F H' F') : Ext H (fun x => G x ∨ F x) H' (fun x => G x ∨ F' x) where
  out := fun x u h n => a.out x u h fun z => n (.inr z)
  kp := a.kp
  new := fun x z => by
    rcases z with z | z
    · exact .inr (.inl z)
    · rcases a.new x z with q | q
      · exact .inl q
      · exact .inr (.inr q)
theorem Ext.imp (a : Ext H F H' F') (h : ∀ x, F2 x → F' x) : Ext H F H' F2 := ⟨a.out, a.kp, fun x z => a.new x (h x z)⟩
theorem Ext.wide (a : Ext H F H' F') (h : ∀ x, F x → F2 x) : Ext H F2 H' F' := ⟨fun x u e n => a.out x u e fun z => n (h x z), a.kp, fun x z => (a.new x z).imp id (h x)⟩
/-- all stays, something new comes -/
theorem Ext.grow (a : Ext H F H1 F1) (e : ∀ x u, H1 x = some u → H2 x = some u) (h : ∀ x, F2 x → F1 x ∨ H1 x = none) : Ext H F H2 F2 :=
  a.trans ⟨fun x u q _ => e x u q, ⟨fun x xs q => e x _ q, fun x o u q => e x _ q⟩, fun x z => (h x z).elim .inr .inl⟩

theorem Rep.step (h : Rep K σ μ H F st) (e : ∀ a, F a → H' a = H a) (k : Kp H H') : Rep K σ μ H' F st := by
  obtain ⟨S, R, h1, h2, h3, h4, h5, h6, h7⟩ := h.ex
  refine ⟨⟨S, R, fun i o q => ?_, fun i c q => ?_, h3, h4, h5, h6, h7⟩, fun a z => by rw [e a z]; exact h.live a z, h.mu, h.len⟩
  · obtain ⟨v, a, b⟩ := h1 i o q
    exact ⟨v, a, b.step (List.prefix_refl _) (fun x z => e x (h6 i x z)) k⟩
  · obtain ⟨v, a, b⟩ := h2 i c q
    exact ⟨v, a, b.step (List.prefix_refl _) (fun x z => e x (h7 i x z)) k⟩
theorem Rep.mono (h : Rep K σ μ H F st) (e : ∀ a, F a → F' a) (l : ∀ a, F' a → H a ≠ none) : Rep K σ μ H F' st := by
  obtain ⟨S, R, h1, h2, h3, h4, h5, h6, h7⟩ := h.ex
  exact ⟨⟨S, R, h1, h2, h3, h4, h5, fun i a z => e a (h6 i a z), fun i a z => e a (h7 i a z)⟩, l, h.mu, h.len⟩
theorem Rep.grow (h : Rep K σ μ H F st) (e : ∀ x u, H x = some u → H' x = some u) : Rep K σ μ H' F st := by
  refine h.step (fun a z => ?_) ⟨fun x xs q => e x _ q, fun x o u q => e x _ q⟩
  cases q : H a with
  | none => exact absurd q (h.live a z)
  | some u => exact e a u q
/-- what is apart from the change stays -/
theorem keepF (x : Ext H F H' F') (d : ∀ a, G a → F a → False) (l : ∀ a, G a → H a ≠ none) : ∀ a, G a → H' a = H a := fun a z => by
  cases q : H a with
  | none => exact absurd q (l a z)
  | some u => exact x.out a u q fun w => d a z w

end

/-! ### ends -/
inductive Out (α : Type) where
  | ok (a : α) (st : St)
  | exc (c : Str) (st : St)
  | no
def bindO {α β : Type} (m : Out α) (k : α → St → Out β) : Out β := match m with
  | .ok a st => k a st
  | .exc c st => .exc c st
  | .no => .no
abbrev RTy (α β : Type) := Mu → Hp → FP → β → α → Prop
def Aft (K : PySem.W.Frag) (W : WX) (σ : L2.St) {α β : Type} (R : RTy α β) (out : Out α) (μ : Mu) (H : Hp) (F : FP) (Q : β → Hp → Prop) : Prop :=
  match out with
  | .ok a st => ∀ b H' μ' Fv F', μ <+: μ' → R μ' H' Fv b a → Rep K σ μ' H' F' st → (∀ x, Fv x → F' x → False) → (∀ x, Fv x → H' x ≠ none) → Ext H F H' (fun x => Fv x ∨ F' x) → Q b H'
  | .exc c st => ∀ H' μ' F', μ <+: μ' → Rep K σ μ' H' F' st → Ext H F H' F' → W (.ref (He.ga K c)) none σ H'
  | .no => False
section
variable {K : PySem.W.Frag} {W : WX} {σ : L2.St} {μ μ0 μ' : Mu} {H H0 H' : Hp} {F F0 Fv : FP} {α β γ δ : Type} {R : RTy α β} {R2 : RTy γ δ}
theorem Aft.bind {out : Out α} {k : α → St → Out γ} {Q : δ → Hp → Prop} {Q1 : β → Hp → Prop} (h : Aft K W σ R2 (bindO out k) μ0 H0 F0 Q) (m : μ0 <+: μ) (x : Ext H0 F0 H (fun a => Fv a ∨ F a))
    (step : ∀ a st' b H' μ' Fv' F', out = .ok a st' → μ <+: μ' → R μ' H' Fv' b a → Rep K σ μ' H' F' st' → (∀ x, Fv' x → F' x → False) → (∀ x, Fv' x → H' x ≠ none) → Ext H F H' (fun x => Fv' x ∨ F' x) →
      Aft K W σ R2 (k a st') μ0 H0 F0 Q → Q1 b H') : Aft K W σ R out μ H F Q1 := by
  cases out with
  | ok a st => exact fun b H' μ' Fv' F' q1 q2 q3 q4 q5 q6 => step a st b H' μ' Fv' F' rfl q1 q2 q3 q4 q5 q6 h
  | exc c st =>
    intro H' μ' F' q1 q2 q3
    exact h H' μ' F' (m.trans q1) q2 (x.trans ((q3.frame (G := Fv)).imp fun _ z => .inr z))
  | no => exact h
/-- the last one -/
theorem Aft.tail {out : Out α} {Q : β → Hp → Prop} (h : Aft K W σ R out μ0 H0 F0 Q) (m : μ0 <+: μ) (x : Ext H0 F0 H (fun a => Fv a ∨ F a)) : Aft K W σ R out μ H F Q := by
  cases out with
  | ok a st => exact fun b H' μ' Fv' F' q1 q2 q3 q4 q5 q6 => h b H' μ' Fv' F' (m.trans q1) q2 q3 q4 q5 (x.trans ((q6.frame (G := Fv)).imp fun _ z => .inr z))
  | exc c st => exact fun H' μ' F' q1 q2 q3 => h H' μ' F' (m.trans q1) q2 (x.trans ((q3.frame (G := Fv)).imp fun _ z => .inr z))
  | no => exact h
end

/-! ### expressions -/
abbrev XE := St → Out O
def tE (K : PySem.W.Frag) (W : WX) (f : XE) : TE := fun σ H Q => ∃ st F μ, Rep K σ μ H F st ∧ Aft K W σ (fun μ H Fv (v : V) o => Own K μ H Fv v o) (f st) μ H F Q
def tT (K : PySem.W.Frag) (W : WX) (f : St → Out Bool) : TT := fun σ H Q => ∃ st F μ, Rep K σ μ H F st ∧ Aft K W σ (fun _ _ _ (b : Bool) c => b = c) (f st) μ H F Q
/-- arguments: data, things of the store -/
def tA (K : PySem.W.Frag) (W : WX) (f : St → Out (List O)) : TA := fun σ H Q => ∃ st F μ, Rep K σ μ H F st ∧ Aft K W σ (fun μ H _ (vs : List V) os => Paired (Own K μ H (fun _ => False)) vs os) (f st) μ H F Q
structure SE (X : Cx) (W : WX) (e : Expr) (f : XE) : Prop where
  pe : PE X e (tE X.K W f)
structure ST (X : Cx) (W : WX) (e : Expr) (f : St → Out Bool) : Prop where
  pt : PT X e (tT X.K W f)
/-- a test within and, or -/
structure SW (X : Cx) (W : WX) (e : Expr) (f : St → Out Bool) : Prop where
  pw : PW X e (tT X.K W f)
structure SA (X : Cx) (W : WX) (es : List Expr) (f : St → Out (List O)) : Prop where
  pa : PA X es (tA X.K W f)
theorem PE.imp {X : Cx} {e : Expr} {t t' : TE} (h : PE X e t) (w : ∀ σ H Q, t' σ H Q → t σ H Q) : PE X e t' := ⟨fun pins s σ H Q I q => h.run pins s σ H Q I (w σ H Q q)⟩
theorem PT.imp {X : Cx} {e : Expr} {t t' : TT} (h : PT X e t) (w : ∀ σ H Q, t' σ H Q → t σ H Q) : PT X e t' := ⟨fun pins s σ H Q I q => h.run pins s σ H Q I (w σ H Q q)⟩
theorem PW.imp {X : Cx} {e : Expr} {t t' : TT} (h : PW X e t) (w : ∀ σ H Q, t' σ H Q → t σ H Q) : PW X e t' := ⟨fun wh pins s σ H Q I q => h.run wh pins s σ H Q I (w σ H Q q)⟩
theorem PA.imp {X : Cx} {e : List Expr} {t t' : TA} (h : PA X e t) (w : ∀ σ H Q, t' σ H Q → t σ H Q) : PA X e t' := ⟨fun p pins s σ H Q I q => h.run p pins s σ H Q I (w σ H Q q)⟩
theorem PS.imp {X : Cx} {e : Stmt} {t t' : TS} (h : PS X e t) (w : ∀ D σ H, t' D σ H → t D σ H) : PS X e t' := ⟨fun pins s σ H D I q => h.run pins s σ H D I (w D σ H q)⟩
theorem PSs.imp {X : Cx} {e : List Stmt} {t t' : TS} (h : PSs X e t) (w : ∀ D σ H, t' D σ H → t D σ H) : PSs X e t' := ⟨fun pins s σ H D I q => h.run pins s σ H D I (w D σ H q)⟩
end Tr
namespace Tr
open PySem PySem.Spec PyProof.Rows L2
section
variable {X : Cx} {W : WX} {a b c e : Expr} {es : List Expr} {fa fb fc f : XE} {pos : Pos}

/-! ### the plain ends -/
/-- a datum comes, the heap as it was -/
theorem Aft.datum {K : PySem.W.Frag} {W : WX} {σ : L2.St} {μ : Mu} {H : Hp} {F : FP} {st : St} {x : PyData} {v : V} {Q : V → Hp → Prop} (h : Aft K W σ (fun μ H Fv (v : V) o => Own K μ H Fv v o) (.ok (.d x) st) μ H F Q) (r : Rep K σ μ H F st) (d : Rp K H v x) : Q v H :=
  h v H μ (fun _ => False) F (List.prefix_refl _) (.d d) r (fun _ z => z.elim) (fun _ z => z.elim) (Ext.refl fun a z => z.elim False.elim id)

/-! ### names, constants -/
@[simp] def xC (d : PyData) : XE := fun st => .ok (.d d) st
theorem se_c {v : V} {d : PyData} (h : PE X e (tC v)) (r : ∀ H, Rp X.K H v d) : SE X W e (xC d) := by
  refine ⟨PE.imp h fun σ H Q ⟨st, F, μ, rep, q⟩ => ?_⟩
  exact q.datum rep (r H)
theorem se_int {i : Int} {j} : SE X W (.Constant (.int i) j pos) (xC (.int i)) := se_c pe_int fun _ => .int i
theorem se_bool {i : Bool} {j} : SE X W (.Constant (.bool i) j pos) (xC (.bool i)) := se_c pe_bl fun _ => .bl i
theorem se_none {j} : SE X W (.Constant .none j pos) (xC .none) := se_c pe_non fun _ => .non
theorem se_str {x : Str} {j} : SE X W (.Constant (.str x) j pos) (xC (.str x)) := se_c pe_str fun _ => .str x
/-- a constant of the module -/
theorem se_glob {x : Str} {u : Value} {v : V} {d : PyData} (hm : X.mg x = some u) (r : RelV v u) (hd : ∀ H, Rp X.K H v d) (hg : Gl X x := by rfl) (hdb : (x == ("__debug__" : Str)) = false := by decide) : SE X W (.Name x pos) (xC d) :=
  se_c (pe_glob hg hm r hdb) hd

/-- a dict of lists as a dict -/
abbrev dlD (es : List (PyData × List PyData)) : List (PyData × PyData) := es.map fun p => (p.1, .list p.2)
@[simp] def frz : O → O
  | .d x => .d x
  | .lst xs => .d (.list xs)
  | .obj k => .obj k
  | .xcp c => .xcp c
  | .tl xs ys => .tl xs ys
  | .dct es => .d (.dict es)
  | .dcl es => .d (.dict (dlD es))
/-- a name: what it holds is not its own any more -/
@[simp] def xVar (i : Nat) : XE := fun st => match st.loc[i]? with
  | some (some (.d x)) => .ok (.d x) st
  | some (some (.obj k)) => .ok (.obj k) st
  | some (some (.lst xs)) => .ok (.d (.list xs)) { st with loc := st.loc.set i (some (.d (.list xs))) }
  | some (some (.xcp c)) => .ok (.xcp c) st
  | some (some (.dct es)) => .ok (.d (.dict es)) { st with loc := st.loc.set i (some (.d (.dict es))) }
  | some (some (.dcl es)) => .ok (.d (.dict (dlD es))) { st with loc := st.loc.set i (some (.d (.dict (dlD es)))) }
  | _ => .no

/-- something is locked -/
theorem Kp.lockU {H : Hp} {a : Addr} {o : Obj} {u : HO} (h : H a = some u) (mu : Mut (some u)) : Kp H (upd H a (.frz o u)) :=
  ⟨fun b ys q => by rw [upd_ne (ne_of q h (by rintro rfl; exact mu))]; exact q, fun b o' u' q => by rw [upd_ne (ne_of q h (by rintro rfl; exact mu))]; exact q⟩
theorem Kp.lock {H : Hp} {a : Addr} {o : Obj} {xs : List V} (h : H a = some (.lst xs)) : Kp H (upd H a (.frz o (.lst xs))) := Kp.lockU h trivial
theorem DOf.mut {a : Addr} {u : HO} {xs : List (V × PyData × V)} (h : DOf a u xs) : Mut (some u) := by
  cases h <;> exact trivial
/-- lists of lists of one's own are locked -/
theorem lock_dcl {X : Cx} {pins : List (Addr × Obj)} {σ : L2.St} {s : Shared} {F : FP} {xs : List (V × PyData × V)} {es : List (PyData × List PyData)} {H0 : Hp} (h : DclR X.K H0 F xs es) : ∀ {H : Hp}, Inv X pins σ H s → (∀ x ∈ xs, ∀ b, x.2.2 = .ref b → H b = H0 b) → Kp H0 H →
    ∃ H', Inv X pins σ H' s ∧ (∀ b, (∀ x ∈ xs, x.2.2 ≠ .ref b) → H' b = H b) ∧ Kp H H' ∧ (∀ b, H b ≠ none → H' b ≠ none) ∧ RpD X.K H' xs (dlD es) := by
  induction h with
  | nil => exact fun {H} I _ _ => ⟨H, I, fun _ _ => rfl, Kp.refl H, fun _ z => z, .nil⟩
  | @cons kv kd b vs ds xs es h1 h2 h3 h4 h5 _ ih =>
    intro H I hs k0
    have hb : H b = some (.lst vs) := (hs _ List.mem_cons_self b rfl).trans h2
    obtain ⟨o, I2⟩ := I.lock hb trivial
    have k := Kp.lock (o := o) hb
    obtain ⟨H', J, e, k2, lv, r⟩ := ih I2 (fun x hx c hc => by
      have ne : c ≠ b := fun z => h5 x hx (z ▸ hc)
      rw [upd_ne ne]; exact hs x (List.mem_cons_of_mem _ hx) c hc) (k0.trans k)
    have h2' : H' b = some (.frz o (.lst vs)) := k2.frz _ _ _ upd_same
    refine ⟨H', J, fun c hc => ?_, k.trans k2, fun c hc => lv c ?_, .cons (h1.kpP (k0.trans (k.trans k2))) (.lst ⟨o, h2'⟩ (h3.kpP (k0.trans (k.trans k2)))) r⟩
    · rw [e c fun x hx => hc x (List.mem_cons_of_mem _ hx), upd_ne fun z => hc _ List.mem_cons_self (by rw [z])]
    · by_cases z : c = b
      · subst z; rw [upd_same]; simp
      · rw [upd_ne z]; exact hc
theorem DclR.inF {K : PySem.W.Frag} {H : Hp} {F : FP} {xs : List (V × PyData × V)} {es : List (PyData × List PyData)} (h : DclR K H F xs es) : ∀ x ∈ xs, ∀ b, x.2.2 = .ref b → F b ∧ ∃ vs, H b = some (.lst vs) := by
  induction h with
  | nil => exact fun _ hx => nomatch hx
  | cons a b c d e f ih =>
    intro x hx y hy
    rcases List.mem_cons.mp hx with rfl | hx
    · cases hy; exact ⟨d, _, b⟩
    · exact ih x hx y hy
/-- what is one's own is locked -/
theorem lock_own {X : Cx} {pins : List (Addr × Obj)} {σ : L2.St} {s : Shared} {μ : Mu} {H : Hp} {Fi : FP} {v : V} {o : O} (I : Inv X pins σ H s) (h : Own X.K μ H Fi v o) (hn : ∀ xs ys, o ≠ .tl xs ys) :
    ∃ H', Inv X pins σ H' s ∧ (∀ b, ¬ Fi b → H' b = H b) ∧ Kp H H' ∧ (∀ b, H b ≠ none → H' b ≠ none) ∧ Own X.K μ H' (fun _ => False) v (frz o) := by
  have one : ∀ {a : Addr} {u : HO}, H a = some u → Mut (some u) → Fi a → ∃ ob, Inv X pins σ (upd H a (.frz ob u)) s ∧ (∀ b, ¬ Fi b → (upd H a (.frz ob u)) b = H b) ∧ Kp H (upd H a (.frz ob u)) ∧ (∀ b, H b ≠ none → (upd H a (.frz ob u)) b ≠ none) := fun {a u} e mu f => by
    obtain ⟨ob, I2⟩ := I.lock e mu
    refine ⟨ob, I2, fun b hb => upd_ne fun z => hb (z ▸ f), Kp.lockU e mu, fun b hb => ?_⟩
    by_cases z : b = a
    · subst z; rw [upd_same]; simp
    · rw [upd_ne z]; exact hb
  cases h with
  | d r => exact ⟨H, I, fun _ _ => rfl, Kp.refl H, fun _ z => z, .d r⟩
  | obj r => exact ⟨H, I, fun _ _ => rfl, Kp.refl H, fun _ z => z, .obj r⟩
  | xcp a b c => exact ⟨H, I, fun _ _ => rfl, Kp.refl H, fun _ z => z, .xcp a b c⟩
  | tl _ _ _ _ _ _ _ _ => exact (hn _ _ rfl).elim
  | lst a b c =>
    obtain ⟨ob, h1, h2, h3, h4⟩ := one a trivial c
    exact ⟨_, h1, h2, h3, h4, .d (.lst ⟨ob, upd_same⟩ (b.kpP h3))⟩
  | dct a b c d =>
    obtain ⟨ob, h1, h2, h3, h4⟩ := one a b.mut d
    exact ⟨_, h1, h2, h3, h4, .d (.dct upd_same b (c.kpP h3))⟩
  | @dcl a u xs es e b c d =>
    obtain ⟨ob, h1, h2, h3, h4⟩ := one e b.mut d
    have hin := c.inF
    have na : ∀ x ∈ xs, ∀ y, x.2.2 = .ref y → y ≠ a := fun x hx y hy z => by
      obtain ⟨_, vs, hv⟩ := hin x hx y hy
      rw [z, e] at hv
      cases hv
      cases b
    obtain ⟨H', J, g1, g2, g3, g4⟩ := lock_dcl c h1 (fun x hx y hy => upd_ne (na x hx y hy)) h3
    refine ⟨H', J, fun y hy => ?_, h3.trans g2, fun y hy => g3 y (h4 y hy), .d (.dct (g2.frz _ _ _ upd_same) b g4)⟩
    rw [g1 y fun x hx z => hy (hin x hx y z).1, h2 y hy]

theorem Rep.slot {K : PySem.W.Frag} {σ : L2.St} {μ : Mu} {H : Hp} {F : FP} {st : St} (h : Rep K σ μ H F st) {i : Nat} {o : O} (e : st.loc[i]? = some (some o)) : ∃ v, σ[i]? = some (some v) ∧ Own K μ H F v o := by
  obtain ⟨S, R, h1, h2, h3, h4, h5, h6, h7⟩ := h.ex
  obtain ⟨v, q1, q2⟩ := h1 i o e
  exact ⟨v, q1, q2.mono fun a z => h6 i a z⟩
/-- the i-th slot holds another thing -/
theorem Rep.put {K : PySem.W.Frag} {σ : L2.St} {μ : Mu} {H H' : Hp} {F Fv : FP} {st : St} (h : Rep K σ μ H F st) {i : Nat} {o : O} {v : V} (hi : i < st.loc.length) (hv : Own K μ H' Fv v o)
    (d : ∀ a, Fv a → F a → False) (l : ∀ a, Fv a → H' a ≠ none) (s : ∀ a, F a → H' a = H a) (k : Kp H H') : Rep K (σ.set i (some v)) μ H' (fun a => Fv a ∨ F a) { st with loc := st.loc.set i (some o) } := by
  obtain ⟨S, R, h1, h2, h3, h4, h5, h6, h7⟩ := h.ex
  have hs := h.len
  refine ⟨⟨fun j => if j = i then Fv else S j, R, fun j o' e => ?_, fun k' c e => ?_, fun j j' a z z' => ?_, h4, fun j k' a z z' => ?_, fun j a z => ?_, fun k' a z => .inr (h7 k' a z)⟩, fun a z => ?_, h.mu, ?_⟩
  · by_cases hj : j = i
    · subst hj
      have e' : (st.loc.set j (some o))[j]? = some (some o') := e
      rw [List.getElem?_set_self hi] at e'
      cases e'
      refine ⟨v, List.getElem?_set_self (by omega), ?_⟩
      simp only [if_true]; exact hv
    · have e' : (st.loc.set i (some o))[j]? = some (some o') := e
      rw [List.getElem?_set_ne (Ne.symm hj)] at e'
      obtain ⟨w, q1, q2⟩ := h1 j o' e'
      refine ⟨w, by rw [List.getElem?_set_ne (Ne.symm hj)]; exact q1, ?_⟩
      simp only [hj, if_false]
      exact q2.step (List.prefix_refl _) (fun a z => s a (h6 j a z)) k
  · obtain ⟨w, q1, q2⟩ := h2 k' c e
    exact ⟨w, q1, q2.step (List.prefix_refl _) (fun a z => s a (h7 k' a z)) k⟩
  · dsimp only at z z'
    split at z <;> split at z'
    · rename_i a1 a2; rw [a1, a2]
    · exact (d a z (h6 j' a z')).elim
    · exact (d a z' (h6 j a z)).elim
    · exact h3 j j' a z z'
  · dsimp only at z
    split at z
    · exact d a z (h7 k' a z')
    · exact h5 j k' a z z'
  · dsimp only at z
    split at z
    · exact .inl z
    · exact .inr (h6 j a z)
  · rcases z with z | z
    · exact l a z
    · rw [s a z]; exact h.live a z
  · show (st.loc.set i (some o)).length = (σ.set i (some v)).length
    rw [List.length_set, List.length_set]; exact hs
/-- a slot's own is locked -/
theorem Rep.lockG {K : PySem.W.Frag} {σ : L2.St} {μ : Mu} {H : Hp} {F : FP} {st : St} (h : Rep K σ μ H F st) {i : Nat} {o : O} (e : st.loc[i]? = some (some o)) :
    ∃ v Fi, σ[i]? = some (some v) ∧ Own K μ H Fi v o ∧ ∀ H' o', (∀ b, ¬ Fi b → H' b = H b) → Kp H H' → (∀ b, H b ≠ none → H' b ≠ none) → Own K μ H' (fun _ => False) v o' → ∃ F', Rep K σ μ H' F' { st with loc := st.loc.set i (some o') } ∧ Ext H F H' F' := by
  obtain ⟨S, R, h1, h2, h3, h4, h5, h6, h7⟩ := h.ex
  obtain ⟨v, q1, q2⟩ := h1 i _ e
  refine ⟨v, S i, q1, q2, fun H' o' ou k lv rp => ?_⟩
  refine ⟨fun b => F b ∧ ¬ S i b, ⟨⟨fun j b => S j b ∧ ¬ S i b, R, fun j o2 e' => ?_, fun k' c e' => ?_, fun j j' b z z' => h3 j j' b z.1 z'.1, h4, fun j k' b z z' => h5 j k' b z.1 z', fun j b z => ⟨h6 j b z.1, z.2⟩, fun k' b z => ⟨h7 k' b z, fun w => h5 i k' b w z⟩⟩, fun b z => lv b (h.live b z.1), h.mu, ?_⟩, ⟨fun b u q n => ?_, k, fun b z => .inr z.1⟩⟩
  · by_cases hj : i = j
    · subst hj
      have hi := (List.getElem?_eq_some_iff.mp e).1
      have e2 : (st.loc.set i (some o'))[i]? = some (some o2) := e'
      rw [List.getElem?_set_self hi] at e2
      cases e2
      exact ⟨_, q1, rp.mono fun _ z => z.elim⟩
    · have e2 : (st.loc.set i (some o'))[j]? = some (some o2) := e'
      rw [List.getElem?_set_ne hj] at e2
      obtain ⟨w, r1, r2⟩ := h1 j o2 e2
      have na : ∀ b, S j b → ¬ S i b := fun b z w => hj (h3 i j b w z)
      exact ⟨w, r1, (r2.step (List.prefix_refl _) (fun b z => ou b (na b z)) k).mono fun b z => ⟨z, na b z⟩⟩
  · obtain ⟨w, r1, r2⟩ := h2 k' c e'
    exact ⟨w, r1, r2.step (List.prefix_refl _) (fun b z => ou b fun w' => h5 i k' b w' z) k⟩
  · show (st.loc.set i _).length = _
    rw [List.length_set]; exact h.len
  · rw [ou b fun w' => n (h6 i b w')]; exact q

theorem se_var (i : Nat) {x : Str} (h : PE X (.Name x pos) (tVar i)) : SE X W (.Name x pos) (xVar i) := by
  refine ⟨⟨fun pins s σ H Q I ⟨st, F, μ, rep, q⟩ => ?_⟩⟩
  have lock : ∀ o, st.loc[i]? = some (some o) → (∀ xs ys, o ≠ .tl xs ys) → Aft X.K W σ (fun μ H Fv (v : V) o => Own X.K μ H Fv v o) (.ok (frz o) { st with loc := st.loc.set i (some (frz o)) }) μ H F Q → wpAny (model X.prog X.w) X.A (eval (.Name x pos) X.env) (EP X pins σ Q) X.xe s := fun o e hn q => by
    obtain ⟨v, Fi, q1, q2, q3⟩ := rep.lockG e
    obtain ⟨H', I2, g1, g2, g3, g4⟩ := lock_own I q2 hn
    obtain ⟨F', r2, x2⟩ := q3 H' (frz o) g1 g2 g3 g4
    refine h.run pins s σ _ Q I2 ⟨_, q1, ?_⟩
    exact q _ _ μ (fun _ => False) F' (List.prefix_refl _) g4 r2 (fun _ z => z.elim) (fun _ z => z.elim) (x2.imp fun a z => z.elim False.elim id)
  unfold xVar at q
  split at q
  · rename_i x e
    obtain ⟨v, h1, h2⟩ := rep.slot e
    cases h2 with
    | d r => exact h.run pins s σ H Q I ⟨v, h1, q.datum rep r⟩
  · rename_i k e
    obtain ⟨v, h1, h2⟩ := rep.slot e
    cases h2 with
    | obj r => exact h.run pins s σ H Q I ⟨_, h1, q _ H μ (fun _ => False) F (List.prefix_refl _) (.obj r) rep (fun _ z => z.elim) (fun _ z => z.elim) (Ext.refl fun a z => z.elim False.elim id)⟩
  · rename_i ds e
    exact lock _ e (fun _ _ z => nomatch z) q
  · rename_i c e
    obtain ⟨v, h1, h2⟩ := rep.slot e
    cases h2 with
    | xcp r1 r2 r3 => exact h.run pins s σ H Q I ⟨_, h1, q _ H μ (fun _ => False) F (List.prefix_refl _) (.xcp r1 r2 r3) rep (fun _ z => z.elim) (fun _ z => z.elim) (Ext.refl fun a z => z.elim False.elim id)⟩
  · rename_i es e
    exact lock _ e (fun _ _ z => nomatch z) q
  · rename_i es e
    exact lock _ e (fun _ _ z => nomatch z) q
  · exact q.elim

/-! ### what an expression of its own gives is locked -/
@[simp] def xFz (f : XE) : XE := fun st => bindO (f st) fun o st => .ok (frz o) st
theorem se_fz (h : SE X W e f) : SE X W e (xFz f) := by
  refine ⟨⟨fun pins s σ H Q I ⟨st, F, μ, rep, q⟩ => ?_⟩⟩
  have key := h.pe.run pins s σ H (fun v H1 => ∀ s1, Inv X pins σ H1 s1 → ∃ H2, Inv X pins σ H2 s1 ∧ Q v H2) I ⟨st, F, μ, rep, ?_⟩
  · refine thn key fun u s1 ⟨v, H1, I1, r1, q1⟩ => ?_
    obtain ⟨H2, I2, q2⟩ := q1 s1 I1
    exact ⟨v, H2, I2, r1, q2⟩
  · refine Aft.bind (Fv := fun _ => False) q (List.prefix_refl _) (Ext.refl fun a z => z.elim False.elim id) fun o st' v H' μ' Fv' F' eo m r rep' dj lv x h2 => ?_
    intro s1 I1
    by_cases tl : ∃ xs ys, o = .tl xs ys
    · obtain ⟨xs, ys, rfl⟩ := tl
      exact ⟨H', I1, h2 v H' μ' Fv' F' m r rep' dj lv x⟩
    · obtain ⟨H2, I2, g1, g2, g3, g4⟩ := lock_own I1 r fun xs ys z => tl ⟨xs, ys, z⟩
      have ou : ∀ b, F' b → H2 b = H' b := fun b z => g1 b fun w => dj b w z
      refine ⟨H2, I2, h2 v H2 μ' (fun _ => False) F' m g4 (rep'.step ou g2) (fun _ z => z.elim) (fun _ z => z.elim) ?_⟩
      refine x.trans ⟨fun b u q n => ?_, g2, fun b z => .inr (z.elim False.elim .inr)⟩
      rw [g1 b fun w => n (.inl w)]; exact q
end
end Tr
namespace Tr
open PySem PySem.Spec PyProof.Rows L2

/-- a new thing, or a datum -/
def Fin (K : PySem.W.Frag) (μ : Mu) (H : Hp) (o : O) (Q : V → Hp → Prop) : Prop :=
  ∀ v H' Fv, (∀ p u, H p = some u → H' p = some u) → Own K μ H' Fv v o → (∀ p, Fv p → H p = none ∧ H' p ≠ none) → Q v H'
theorem Fin.datum {K : PySem.W.Frag} {μ : Mu} {H : Hp} {d : PyData} {Q : V → Hp → Prop} {v : V} (h : Fin K μ H (.d d) Q) (r : Rp K H v d) : Q v H :=
  h v H (fun _ => False) (fun _ _ q => q) (.d r) fun _ z => z.elim
theorem Fin.list {K : PySem.W.Frag} {μ : Mu} {H : Hp} {ds : List PyData} {xs : List V} {Q : V → Hp → Prop} (h : Fin K μ H (.lst ds) Q) (r : RpL K H xs ds) : ∀ p, H p = none → Q (.ref p) (upd H p (.lst xs)) := fun p np => by
  have g : ∀ b u, H b = some u → (upd H p (.lst xs)) b = some u := fun b u q => by rw [upd_ne (ne_of_none q np)]; exact q
  exact h _ _ (fun a => a = p) g (.lst upd_same (RpL.kp ⟨fun a xs q => g a _ q, fun a o u q => g a _ q⟩ _ r) rfl) fun b z => by subst z; exact ⟨np, by rw [upd_same]; simp⟩
theorem Fin.tuple {K : PySem.W.Frag} {μ : Mu} {H : Hp} {ds : List PyData} {xs : List V} {Q : V → Hp → Prop} (h : Fin K μ H (.d (.tuple ds)) Q) (r : RpL K H xs ds) : ∀ p, H p = none → Q (.ref p) (upd H p (.tup xs)) := fun p np => by
  have g : ∀ b u, H b = some u → (upd H p (.tup xs)) b = some u := fun b u q => by rw [upd_ne (ne_of_none q np)]; exact q
  exact h _ _ (fun _ => False) g (.d (.tup (.inl upd_same) (RpL.kp ⟨fun a xs q => g a _ q, fun a o u q => g a _ q⟩ _ r))) fun b z => z.elim
section
variable {K : PySem.W.Frag} {W : WX} {σ : L2.St} {μ μ0 : Mu} {H H0 : Hp} {F F0 G : FP} {st : St} {o : O} {Q : V → Hp → Prop}
/-- the last step of an expression -/
theorem Aft.fin (h : Aft K W σ (fun μ H Fv (v : V) o => Own K μ H Fv v o) (.ok o st) μ0 H0 F0 Q) (m : μ0 <+: μ) (r : Rep K σ μ H F st) (x : Ext H0 F0 H (fun a => G a ∨ F a)) : Fin K μ H o Q := fun v H' Fv g ow fr => by
  refine h v H' μ Fv F m ow (r.grow g) (fun a z w => r.live a w (fr a z).1) (fun a z => (fr a z).2) (x.grow g fun a z => ?_)
  rcases z with z | z
  · exact .inr (fr a z).1
  · exact .inl (.inr z)
end

/-! ### operators by values -/
structure V2 (K : PySem.W.Frag) (r : R2) (h : O → O → Option O) : Prop where
  ok : ∀ (μ : Mu) (H : Hp) (F1 F2 : FP) (x y : V) (a b o : O) (Q : V → Hp → Prop), Own K μ H F1 x a → Own K μ H F2 y b → h a b = some o → Fin K μ H o Q → r x y H Q
@[simp] def orO (h g : O → O → Option O) : O → O → Option O := fun a b => match h a b with
  | some o => some o
  | none => g a b
theorem V2.or {K : PySem.W.Frag} {r r' : R2} {h h' : O → O → Option O} (a : V2 K r h) (b : V2 K r' h') : V2 K (fun x y H Q => r x y H Q ∨ r' x y H Q) (orO h h') := ⟨fun μ H F1 F2 x y p q o Q o1 o2 e f => by
  unfold orO at e
  split at e
  · rename_i o' e'; cases e; exact .inl (a.ok μ H F1 F2 x y p q o Q o1 o2 e' f)
  · exact .inr (b.ok μ H F1 F2 x y p q o Q o1 o2 e f)⟩
@[simp] def ret2 (h : O → O → Option O) (a b : O) (st : St) : Out O := match h a b with
  | some o => .ok o st
  | none => .no
@[simp] def xOp2 (h : O → O → Option O) (fa fb : XE) : XE := fun st => bindO (fa st) fun a st1 => bindO (fb st1) fun b st2 => ret2 h a b st2
/-- the left one a name, read where it stands -/
@[simp] def xOp2v (h : O → O → Option O) (i : Nat) (fb : XE) : XE := fun st => match st.loc[i]? with
  | some (some _) => bindO (fb st) fun b st2 => match st2.loc[i]? with
    | some (some a) => ret2 h a b st2
    | _ => .no
  | _ => .no
/-- the right one a name, read where it stands -/
@[simp] def xOp2w (h : O → O → Option O) (fa : XE) (i : Nat) : XE := fun st => bindO (fa st) fun a st1 => match st1.loc[i]? with
    | some (some b) => ret2 h a b st1
    | _ => .no
section
variable {X : Cx} {W : WX} {a b c e : Expr} {es : List Expr} {fa fb fc f : XE} {pos : Pos} {r : R2} {h : O → O → Option O} {σ : L2.St} {H : Hp} {Q : V → Hp → Prop} {st : St} {F : FP} {μ : Mu}
theorem op2_core (v2 : V2 X.K r h) (rep : Rep X.K σ μ H F st) (q : Aft X.K W σ (fun μ H Fv (v : V) o => Own X.K μ H Fv v o) (xOp2 h fa fb st) μ H F Q) : tE X.K W fa σ H fun x H1 => tE X.K W fb σ H1 fun y H2 => r x y H2 Q := by
  refine ⟨st, F, μ, rep, Aft.bind (Fv := fun _ => False) q (List.prefix_refl _) (Ext.refl fun a z => z.elim False.elim id) fun o1 st1 v1 H1 μ1 Fv1 F1 e1 m1 r1 rep1 d1 l1 x1 q1 => ?_⟩
  refine ⟨st1, F1, μ1, rep1, Aft.bind (Fv := Fv1) q1 m1 x1 fun o2 st2 v2' H2 μ2 Fv2 F2 e2 m2 r2 rep2 d2 l2 x2 q2 => ?_⟩
  have s1 := keepF x2 d1 l1
  have r1' := r1.step m2 s1 x2.kp
  unfold ret2 at q2
  split at q2
  · rename_i o eo
    exact v2.ok μ2 H2 Fv1 Fv2 v1 v2' o1 o2 o Q r1' r2 eo (Aft.fin (G := fun a => Fv1 a ∨ Fv2 a) q2 (m1.trans m2) rep2 (x1.trans ((x2.frame (G := Fv1)).imp fun a z => by rcases z with (z | z) | z; exact .inl z; exact .inr (.inl z); exact .inr (.inr z))))
  · exact q2.elim
theorem se_op {op : Operator} (ho : OpR X (binaryOp op) r) (v2 : V2 X.K r h) (ha : SE X W a fa) (hb : SE X W b fb) : SE X W (.BinOp a op b pos) (xOp2 h fa fb) :=
  ⟨PE.imp (pe_op ho ha.pe hb.pe) fun σ H Q ⟨st, F, μ, rep, q⟩ => op2_core v2 rep q⟩
theorem se_cmp {op : CmpOp} (ho : OpR X (compareOp op) r) (v2 : V2 X.K r h) (ha : SE X W a fa) (hb : SE X W b fb) (hm : behindInMarks op b = false) : SE X W (.Compare a [op] [b] pos) (xOp2 h fa fb) :=
  ⟨PE.imp (pe_cmpR ho ha.pe hb.pe hm) fun σ H Q ⟨st, F, μ, rep, q⟩ => op2_core v2 rep q⟩
theorem op2v_core {i : Nat} (v2 : V2 X.K r h) (rep : Rep X.K σ μ H F st) (q : Aft X.K W σ (fun μ H Fv (v : V) o => Own X.K μ H Fv v o) (xOp2v h i fb st) μ H F Q) : tVar i σ H fun x H1 => tE X.K W fb σ H1 fun y H2 => r x y H2 Q := by
  unfold xOp2v at q
  split at q
  · rename_i o0 e0
    obtain ⟨v, h1, _⟩ := rep.slot e0
    refine ⟨v, h1, st, F, μ, rep, Aft.bind (Fv := fun _ => False) q (List.prefix_refl _) (Ext.refl fun a z => z.elim False.elim id) fun o2 st2 v2' H2 μ2 Fv2 F2 e2 m2 r2 rep2 d2 l2 x2 q2 => ?_⟩
    split at q2
    · rename_i o1 e1
      obtain ⟨v', h2, w1⟩ := rep2.slot e1
      rw [h1] at h2; cases h2
      unfold ret2 at q2
      split at q2
      · rename_i o eo
        exact v2.ok μ2 H2 F2 Fv2 v v2' o1 o2 o Q w1 r2 eo (Aft.fin (G := Fv2) q2 m2 rep2 x2)
      · exact q2.elim
    · exact q2.elim
  · exact q.elim
theorem op2w_core {i : Nat} (v2 : V2 X.K r h) (rep : Rep X.K σ μ H F st) (q : Aft X.K W σ (fun μ H Fv (v : V) o => Own X.K μ H Fv v o) (xOp2w h fa i st) μ H F Q) : tE X.K W fa σ H fun x H1 => tVar i σ H1 fun y H2 => r x y H2 Q := by
  refine ⟨st, F, μ, rep, Aft.bind (Fv := fun _ => False) q (List.prefix_refl _) (Ext.refl fun a z => z.elim False.elim id) fun o1 st1 v1 H1 μ1 Fv1 F1 e1 m1 r1 rep1 d1 l1 x1 q1 => ?_⟩
  split at q1
  · rename_i o2 e2
    obtain ⟨v, h1, w⟩ := rep1.slot e2
    refine ⟨v, h1, ?_⟩
    unfold ret2 at q1
    split at q1
    · rename_i o eo
      exact v2.ok μ1 H1 Fv1 F1 v1 v o1 o2 o Q r1 w eo (Aft.fin (G := Fv1) q1 m1 rep1 x1)
    · exact q1.elim
  · exact q1.elim
theorem se_cmpv {op : CmpOp} (i : Nat) (ho : OpR X (compareOp op) r) (v2 : V2 X.K r h) (ha : PE X a (tVar i)) (hb : SE X W b fb) (hm : behindInMarks op b = false) : SE X W (.Compare a [op] [b] pos) (xOp2v h i fb) :=
  ⟨PE.imp (pe_cmpR ho ha hb.pe hm) fun σ H Q ⟨st, F, μ, rep, q⟩ => op2v_core v2 rep q⟩
theorem se_cmpw {op : CmpOp} (i : Nat) (ho : OpR X (compareOp op) r) (v2 : V2 X.K r h) (ha : SE X W a fa) (hb : PE X b (tVar i)) (hm : behindInMarks op b = false) : SE X W (.Compare a [op] [b] pos) (xOp2w h fa i) :=
  ⟨PE.imp (pe_cmpR ho ha.pe hb hm) fun σ H Q ⟨st, F, μ, rep, q⟩ => op2w_core v2 rep q⟩
/-- a[i] -/
theorem se_ix (ho : IxR X r) (v2 : V2 X.K r h) (ha : SE X W a fa) (hb : SE X W b fb) (hs : PlainIx b) : SE X W (.Subscript a b pos) (xOp2 h fa fb) :=
  ⟨PE.imp (pe_ix ho ha.pe hb.pe hs) fun σ H Q ⟨st, F, μ, rep, q⟩ => op2_core v2 rep q⟩
theorem se_ixv (i : Nat) (ho : IxR X r) (v2 : V2 X.K r h) (ha : PE X a (tVar i)) (hb : SE X W b fb) (hs : PlainIx b) : SE X W (.Subscript a b pos) (xOp2v h i fb) :=
  ⟨PE.imp (pe_ix ho ha hb.pe hs) fun σ H Q ⟨st, F, μ, rep, q⟩ => op2v_core v2 rep q⟩

/-! ### tests -/
@[simp] def tVal (f : XE) : St → Out Bool := fun st => bindO (f st) fun o st => match o with
  | .d (.bool b) => .ok b st
  | _ => .no
theorem test_core {Q : Bool → Hp → Prop} (rep : Rep X.K σ μ H F st) (q : Aft X.K W σ (fun _ _ _ (b : Bool) c => b = c) (tVal f st) μ H F Q) : tE X.K W f σ H fun x H' => ∃ k, x = .bl k ∧ Q k H' := by
  refine ⟨st, F, μ, rep, Aft.bind (Fv := fun _ => False) q (List.prefix_refl _) (Ext.refl fun a z => z.elim False.elim id) fun o1 st1 v1 H1 μ1 Fv1 F1 e1 m1 r1 rep1 d1 l1 x1 q1 => ?_⟩
  split at q1
  · rename_i b
    cases r1 with
    | d r => cases r; exact ⟨b, rfl, q1 b H1 μ1 (fun _ => False) F1 m1 rfl rep1 (fun _ z => z.elim) (fun _ z => z.elim) (x1.imp fun a z => z.elim False.elim .inr)⟩
  · exact q1.elim
theorem st_val (ha : SE X W a f) (he : ∀ whole, isTrue a X.env whole = (do let v ← whole; standAt a.pos; holding [v] (truthy v)) := by intro _; rfl) : ST X W a (tVal f) :=
  ⟨PT.imp (pt_val ha.pe he) fun σ H Q ⟨st, F, μ, rep, q⟩ => test_core rep q⟩
theorem st_cmp {op : CmpOp} (ho : OpR X (compareOp op) r) (v2 : V2 X.K r h) (ha : SE X W a fa) (hb : SE X W b fb) (hm : behindInMarks op b = false) : ST X W (.Compare a [op] [b] pos) (tVal (xOp2 h fa fb)) :=
  ⟨PT.imp (pt_cmpR ho ha.pe hb.pe hm) fun σ H Q ⟨st, F, μ, rep, q⟩ => by
    obtain ⟨st', F', μ', rep', q'⟩ := test_core (f := xOp2 h fa fb) rep q
    exact op2_core v2 rep' q'⟩
theorem st_cmpv {op : CmpOp} (i : Nat) (ho : OpR X (compareOp op) r) (v2 : V2 X.K r h) (ha : PE X a (tVar i)) (hb : SE X W b fb) (hm : behindInMarks op b = false) : ST X W (.Compare a [op] [b] pos) (tVal (xOp2v h i fb)) :=
  ⟨PT.imp (pt_cmpR ho ha hb.pe hm) fun σ H Q ⟨st, F, μ, rep, q⟩ => by
    obtain ⟨st', F', μ', rep', q'⟩ := test_core (f := xOp2v h i fb) rep q
    exact op2v_core v2 rep' q'⟩
theorem st_cmpw {op : CmpOp} (i : Nat) (ho : OpR X (compareOp op) r) (v2 : V2 X.K r h) (ha : SE X W a fa) (hb : PE X b (tVar i)) (hm : behindInMarks op b = false) : ST X W (.Compare a [op] [b] pos) (tVal (xOp2w h fa i)) :=
  ⟨PT.imp (pt_cmpR ho ha.pe hb hm) fun σ H Q ⟨st, F, μ, rep, q⟩ => by
    obtain ⟨st', F', μ', rep', q'⟩ := test_core (f := xOp2w h fa i) rep q
    exact op2w_core v2 rep' q'⟩
/-! chains: a op b op' c -/
@[simp] def xChain (h h' : O → O → Option O) (fa fb fc : XE) : XE := fun st => bindO (fa st) fun a st1 => bindO (fb st1) fun b st2 => match frz b with
  | .d d => match h a (.d d) with
    | some (.d (.bool true)) => bindO (fc st2) fun c st3 => ret2 h' (.d d) c st3
    | some (.d (.bool false)) => .ok (.d (.bool false)) st2
    | _ => .no
  | _ => .no
variable {r' : R2} {h' : O → O → Option O}
theorem chain_core (v2 : V2 X.K r h) (v2' : V2 X.K r' h') (rep : Rep X.K σ μ H F st) (hn : ∀ st o st', fb st = .ok o st' → frz o = o) (q : Aft X.K W σ (fun μ H Fv (v : V) o => Own X.K μ H Fv v o) (xChain h h' fa fb fc st) μ H F Q) :
    tChain r r' (tE X.K W fa) (tE X.K W fb) (tE X.K W fc) σ H Q := by
  refine ⟨st, F, μ, rep, Aft.bind (Fv := fun _ => False) q (List.prefix_refl _) (Ext.refl fun a z => z.elim False.elim id) fun o1 st1 v1 H1 μ1 Fv1 F1 e1 m1 r1 rep1 d1 l1 x1 q1 => ?_⟩
  refine ⟨st1, F1, μ1, rep1, Aft.bind (Fv := Fv1) q1 m1 x1 fun o2 st2 v2v H2 μ2 Fv2 F2 e2 m2 r2 rep2 d2 l2 x2 q2 => ?_⟩
  have s1 := keepF x2 d1 l1
  have r1' := r1.step m2 s1 x2.kp
  rw [hn _ _ _ e2] at q2
  have X2 : Ext H F H2 (fun a => (Fv1 a ∨ Fv2 a) ∨ F2 a) := x1.trans ((x2.frame (G := Fv1)).imp fun a z => by rcases z with (z | z) | z; exact .inl z; exact .inr (.inl z); exact .inr (.inr z))
  split at q2
  · rename_i d
    split at q2
    · rename_i eo
      refine v2.ok μ2 H2 Fv1 Fv2 v1 v2v o1 (.d d) _ _ r1' r2 eo fun v H' Fv g ow fr => ?_
      cases ow with
      | d rb =>
        cases rb
        refine ⟨true, rfl, ?_⟩
        rw [if_pos rfl]
        have X3 : Ext H F H' (fun a => (Fv1 a ∨ Fv2 a) ∨ F2 a) := X2.grow g fun a z => .inl z
        refine ⟨st2, F2, μ2, rep2.grow g, Aft.bind (Fv := fun a => Fv1 a ∨ Fv2 a) q2 (m1.trans m2) X3 fun o3 st3 v3 H3 μ3 Fv3 F3 e3 m3 r3 rep3 d3 l3 x3 q3 => ?_⟩
        have k2 : Kp H2 H3 := (Kp.mk (fun a xs q => g a _ q) (fun a o u q => g a _ q)).trans x3.kp
        have r2' : Own X.K μ3 H3 (fun _ => False) v2v (.d d) := by cases r2 with | d r => exact .d (r.kp k2)
        unfold ret2 at q3
        split at q3
        · rename_i o eo3
          exact v2'.ok μ3 H3 (fun _ => False) Fv3 v2v v3 (.d d) o3 o Q r2' r3 eo3 (Aft.fin (G := fun a => (Fv1 a ∨ Fv2 a) ∨ Fv3 a) q3 ((m1.trans m2).trans m3) rep3 (X3.trans ((x3.frame (G := fun a => Fv1 a ∨ Fv2 a)).imp fun a z => by
            rcases z with (z | z) | z
            · exact .inl z
            · exact .inr (.inl z)
            · exact .inr (.inr z))))
        · exact q3.elim
    · rename_i eo
      refine v2.ok μ2 H2 Fv1 Fv2 v1 v2v o1 (.d d) _ _ r1' r2 eo fun v H' Fv g ow fr => ?_
      cases ow with
      | d rb =>
        cases rb
        refine ⟨false, rfl, ?_⟩
        rw [if_neg (by simp)]
        exact (Aft.fin (G := fun a => Fv1 a ∨ Fv2 a) q2 (m1.trans m2) (rep2.grow g) (X2.grow g fun a z => .inl z)).datum (.bl false)
    · exact q2.elim
  · exact q2.elim
theorem se_chain {op op' : CmpOp} (ho : OpR X (compareOp op) r) (ho' : OpR X (compareOp op') r') (v2 : V2 X.K r h) (v2' : V2 X.K r' h') (ha : SE X W a fa) (hb : SE X W b fb) (hc : SE X W c fc) (hn : ∀ st o st', fb st = .ok o st' → frz o = o)
    (hm : lastMarks [op, op'] [b, c] = false := by with_unfolding_all rfl) : SE X W (.Compare a [op, op'] [b, c] pos) (xChain h h' fa fb fc) :=
  ⟨PE.imp (pe_chain ho ho' ha.pe hb.pe hc.pe hm) fun σ H Q ⟨st, F, μ, rep, q⟩ => chain_core v2 v2' rep hn q⟩
theorem st_chain {op op' : CmpOp} (ho : OpR X (compareOp op) r) (ho' : OpR X (compareOp op') r') (v2 : V2 X.K r h) (v2' : V2 X.K r' h') (ha : SE X W a fa) (hb : SE X W b fb) (hc : SE X W c fc) (hn : ∀ st o st', fb st = .ok o st' → frz o = o)
    (hm : lastMarks [op, op'] [b, c] = false := by with_unfolding_all rfl) : ST X W (.Compare a [op, op'] [b, c] pos) (tVal (xChain h h' fa fb fc)) :=
  ⟨PT.imp (pt_chain ho ho' ha.pe hb.pe hc.pe hm) fun σ H Q ⟨st, F, μ, rep, q⟩ => by
    obtain ⟨st', F', μ', rep', q'⟩ := test_core (f := xChain h h' fa fb fc) rep q
    exact chain_core v2 v2' rep' hn q'⟩
end
end Tr
namespace Tr
open PySem PySem.Spec PyProof.Rows L2
section
variable {X : Cx} {W : WX} {a b c e : Expr} {es rest : List Expr} {fa fb fc f : XE} {ga gb gc : St → Out Bool} {pos : Pos} {σ : L2.St} {H : Hp} {st : St} {F : FP} {μ : Mu}
/-! ### and, or, not; if else -/
@[simp] def tNotB (g : St → Out Bool) : St → Out Bool := fun st => bindO (g st) fun b st => .ok (!b) st
@[simp] def tAndB (g h : St → Out Bool) : St → Out Bool := fun st => bindO (g st) fun b st => match b with
  | true => h st
  | false => .ok false st
@[simp] def tOrB (g h : St → Out Bool) : St → Out Bool := fun st => bindO (g st) fun b st => match b with
  | true => .ok true st
  | false => h st
theorem bool_end {W : WX} {σ : L2.St} {μ μ0 : Mu} {H H0 : Hp} {F F0 G : FP} {K : PySem.W.Frag} {b : Bool} {st : St} {Q : Bool → Hp → Prop} (h : Aft K W σ (fun _ _ _ (b : Bool) c => b = c) (.ok b st) μ0 H0 F0 Q) (m : μ0 <+: μ) (r : Rep K σ μ H F st) (x : Ext H0 F0 H (fun a => G a ∨ F a)) : Q b H :=
  h b H μ (fun _ => False) F m rfl r (fun _ z => z.elim) (fun _ z => z.elim) (x.imp fun a z => z.elim False.elim .inr)
theorem st_not (h : ST X W a ga) : ST X W (.UnaryOp .Not a pos) (tNotB ga) := by
  refine ⟨PT.imp (pt_not h.pt) fun σ H Q ⟨st, F, μ, rep, q⟩ => ?_⟩
  refine ⟨st, F, μ, rep, Aft.bind (Fv := fun _ => False) q (List.prefix_refl _) (Ext.refl fun a z => z.elim False.elim id) fun o1 st1 v1 H1 μ1 Fv1 F1 e1 m1 r1 rep1 d1 l1 x1 q1 => ?_⟩
  subst r1
  exact bool_end q1 m1 rep1 x1
theorem sw_and1 (h : ST X W a ga) : SW X W (.BoolOp .And [a] pos) ga := ⟨pw_and1 h.pt⟩
theorem sw_or1 (h : ST X W a ga) : SW X W (.BoolOp .Or [a] pos) ga := ⟨pw_or1 h.pt⟩
theorem sw_and (h : ST X W a ga) (g : SW X W (.BoolOp .And (b :: rest) pos) gb) : SW X W (.BoolOp .And (a :: b :: rest) pos) (tAndB ga gb) := by
  refine ⟨PW.imp (pw_and h.pt g.pw) fun σ H Q ⟨st, F, μ, rep, q⟩ => ?_⟩
  refine ⟨st, F, μ, rep, Aft.bind (Fv := fun _ => False) q (List.prefix_refl _) (Ext.refl fun a z => z.elim False.elim id) fun o1 st1 v1 H1 μ1 Fv1 F1 e1 m1 r1 rep1 d1 l1 x1 q1 => ?_⟩
  subst r1
  cases v1 with
  | true => rw [if_pos rfl]; exact ⟨st1, F1, μ1, rep1, q1.tail m1 x1⟩
  | false => rw [if_neg (by simp)]; exact bool_end q1 m1 rep1 x1
theorem sw_or (h : ST X W a ga) (g : SW X W (.BoolOp .Or (b :: rest) pos) gb) : SW X W (.BoolOp .Or (a :: b :: rest) pos) (tOrB ga gb) := by
  refine ⟨PW.imp (pw_or h.pt g.pw) fun σ H Q ⟨st, F, μ, rep, q⟩ => ?_⟩
  refine ⟨st, F, μ, rep, Aft.bind (Fv := fun _ => False) q (List.prefix_refl _) (Ext.refl fun a z => z.elim False.elim id) fun o1 st1 v1 H1 μ1 Fv1 F1 e1 m1 r1 rep1 d1 l1 x1 q1 => ?_⟩
  subst r1
  cases v1 with
  | true => rw [if_pos rfl]; exact bool_end q1 m1 rep1 x1
  | false => rw [if_neg (by simp)]; exact ⟨st1, F1, μ1, rep1, q1.tail m1 x1⟩
theorem st_sw (h : SW X W a ga) : ST X W a ga := ⟨h.pw.pt⟩
/-- .. as values -/
@[simp] def xAnd (f g : XE) : XE := fun st => bindO (f st) fun o st => match o with
  | .d (.bool true) => g st
  | .d (.bool false) => .ok (.d (.bool false)) st
  | _ => .no
@[simp] def xOr (f g : XE) : XE := fun st => bindO (f st) fun o st => match o with
  | .d (.bool true) => .ok (.d (.bool true)) st
  | .d (.bool false) => g st
  | _ => .no
@[simp] def xNot (f : XE) : XE := fun st => bindO (f st) fun o st => match o with
  | .d (.bool b) => .ok (.d (.bool (!b))) st
  | _ => .no
theorem se_one {op} (h : SE X W a fa) : SE X W (.BoolOp op [a] pos) fa := ⟨pe_one h.pe⟩
theorem dat_end {W : WX} {σ : L2.St} {μ μ0 : Mu} {H H0 : Hp} {F F0 G : FP} {K : PySem.W.Frag} {d : PyData} {v : V} {st : St} {Q : V → Hp → Prop} (h : Aft K W σ (fun μ H Fv (v : V) o => Own K μ H Fv v o) (.ok (.d d) st) μ0 H0 F0 Q) (m : μ0 <+: μ) (r : Rep K σ μ H F st) (x : Ext H0 F0 H (fun a => G a ∨ F a)) (rp : Rp K H v d) : Q v H :=
  (Aft.fin h m r x).datum rp
theorem se_and (h : SE X W a fa) (g : SE X W (.BoolOp .And (b :: rest) pos) fb) : SE X W (.BoolOp .And (a :: b :: rest) pos) (xAnd fa fb) := by
  refine ⟨PE.imp (pe_and h.pe g.pe) fun σ H Q ⟨st, F, μ, rep, q⟩ => ?_⟩
  refine ⟨st, F, μ, rep, Aft.bind (Fv := fun _ => False) q (List.prefix_refl _) (Ext.refl fun a z => z.elim False.elim id) fun o1 st1 v1 H1 μ1 Fv1 F1 e1 m1 r1 rep1 d1 l1 x1 q1 => ?_⟩
  split at q1
  · cases r1 with
    | d r => cases r; exact ⟨true, rfl, by rw [if_pos rfl]; exact ⟨st1, F1, μ1, rep1, q1.tail m1 x1⟩⟩
  · cases r1 with
    | d r => cases r; exact ⟨false, rfl, by rw [if_neg (by simp)]; exact dat_end q1 m1 rep1 x1 (.bl false)⟩
  · exact q1.elim
theorem se_or (h : SE X W a fa) (g : SE X W (.BoolOp .Or (b :: rest) pos) fb) : SE X W (.BoolOp .Or (a :: b :: rest) pos) (xOr fa fb) := by
  refine ⟨PE.imp (pe_or h.pe g.pe) fun σ H Q ⟨st, F, μ, rep, q⟩ => ?_⟩
  refine ⟨st, F, μ, rep, Aft.bind (Fv := fun _ => False) q (List.prefix_refl _) (Ext.refl fun a z => z.elim False.elim id) fun o1 st1 v1 H1 μ1 Fv1 F1 e1 m1 r1 rep1 d1 l1 x1 q1 => ?_⟩
  split at q1
  · cases r1 with
    | d r => cases r; exact ⟨true, rfl, by rw [if_pos rfl]; exact dat_end q1 m1 rep1 x1 (.bl true)⟩
  · cases r1 with
    | d r => cases r; exact ⟨false, rfl, by rw [if_neg (by simp)]; exact ⟨st1, F1, μ1, rep1, q1.tail m1 x1⟩⟩
  · exact q1.elim
theorem se_not (h : SE X W a fa) : SE X W (.UnaryOp .Not a pos) (xNot fa) := by
  refine ⟨PE.imp (pe_not h.pe) fun σ H Q ⟨st, F, μ, rep, q⟩ => ?_⟩
  refine ⟨st, F, μ, rep, Aft.bind (Fv := fun _ => False) q (List.prefix_refl _) (Ext.refl fun a z => z.elim False.elim id) fun o1 st1 v1 H1 μ1 Fv1 F1 e1 m1 r1 rep1 d1 l1 x1 q1 => ?_⟩
  split at q1
  · cases r1 with
    | d r => cases r; exact ⟨_, rfl, dat_end q1 m1 rep1 x1 (.bl _)⟩
  · exact q1.elim
@[simp] def xIf (g : St → Out Bool) (f1 f2 : XE) : XE := fun st => bindO (g st) fun b st => match b with
  | true => f1 st
  | false => f2 st
theorem se_if (hc : ST X W c gc) (ha : SE X W a fa) (hb : SE X W b fb) : SE X W (.IfExp c a b pos) (xIf gc fa fb) := by
  refine ⟨PE.imp (pe_ifExp hc.pt ha.pe hb.pe) fun σ H Q ⟨st, F, μ, rep, q⟩ => ?_⟩
  refine ⟨st, F, μ, rep, Aft.bind (Fv := fun _ => False) q (List.prefix_refl _) (Ext.refl fun a z => z.elim False.elim id) fun o1 st1 v1 H1 μ1 Fv1 F1 e1 m1 r1 rep1 d1 l1 x1 q1 => ?_⟩
  subst r1
  cases v1 with
  | true => rw [if_pos rfl]; exact ⟨st1, F1, μ1, rep1, q1.tail m1 x1⟩
  | false => rw [if_neg (by simp)]; exact ⟨st1, F1, μ1, rep1, q1.tail m1 x1⟩
/-! ### one-place operators -/
@[simp] def xNeg (f : XE) : XE := fun st => bindO (f st) fun o st => match o with
  | .d (.int i) => .ok (.d (.int (-i))) st
  | _ => .no
theorem se_neg (h : SE X W a fa) : SE X W (.UnaryOp .USub a pos) (xNeg fa) := by
  refine ⟨PE.imp (pe_un un_neg h.pe) fun σ H Q ⟨st, F, μ, rep, q⟩ => ?_⟩
  refine ⟨st, F, μ, rep, Aft.bind (Fv := fun _ => False) q (List.prefix_refl _) (Ext.refl fun a z => z.elim False.elim id) fun o1 st1 v1 H1 μ1 Fv1 F1 e1 m1 r1 rep1 d1 l1 x1 q1 => ?_⟩
  split at q1
  · cases r1 with
    | d r => cases r; exact ⟨_, rfl, dat_end q1 m1 rep1 x1 (.int _)⟩
  · exact q1.elim
/-! ### arguments, displays -/
@[simp] def aNil : St → Out (List O) := fun st => .ok [] st
@[simp] def isTl : O → Bool
  | .tl _ _ => true
  | _ => false
@[simp] def aCons (f : XE) (g : St → Out (List O)) : St → Out (List O) := fun st => bindO (f st) fun o st => if isTl o then .no else bindO (g st) fun os st => .ok (frz o :: os) st
theorem sa_nil : SA X W [] aNil := by
  refine ⟨PA.imp pa_nil fun σ H Q ⟨st, F, μ, rep, q⟩ => ?_⟩
  exact q [] H μ (fun _ => False) F (List.prefix_refl _) .nil rep (fun _ z => z.elim) (fun _ z => z.elim) (Ext.refl fun a z => z.elim False.elim id)
theorem Own.kp0 {K : PySem.W.Frag} {μ μ' : Mu} {H H' : Hp} {v : V} {o : O} (h : Own K μ H (fun _ => False) v o) (m : μ <+: μ') (k : Kp H H') : Own K μ' H' (fun _ => False) v o := h.step m (fun _ z => z.elim) k
theorem sa_cons0 (ha : SE X W e f) (hf : ∀ st o st', f st = .ok o st' → frz o = o) {g : St → Out (List O)} (hr : SA X W es g) (hs : starEach (e :: es) X.env = (false, eval e X.env) :: starEach es X.env) : SA X W (e :: es) (aCons f g) := by
  refine ⟨PA.imp (pa_cons ha.pe hr.pa hs) fun σ H Q ⟨st, F, μ, rep, q⟩ => ?_⟩
  refine ⟨st, F, μ, rep, Aft.bind (Fv := fun _ => False) q (List.prefix_refl _) (Ext.refl fun a z => z.elim False.elim id) fun o1 st1 v1 H1 μ1 Fv1 F1 e1 m1 r1 rep1 d1 l1 x1 q1 => ?_⟩
  rw [hf _ _ _ e1] at q1
  have fo := hf _ _ _ e1
  split at q1
  · exact q1.elim
  rename_i ntl
  have r0 : Own X.K μ1 H1 (fun _ => False) v1 o1 := by
    cases r1 with
    | d r => exact .d r
    | obj r => exact .obj r
    | xcp a b c => exact .xcp a b c
    | tl _ _ _ _ _ _ _ _ => exact (ntl rfl).elim
    | dct _ _ _ _ => exact nomatch fo
    | dcl _ _ _ _ => exact nomatch fo
    | lst _ _ _ => exact nomatch fo
  refine ⟨st1, F1, μ1, rep1, Aft.bind (Fv := Fv1) q1 m1 x1 fun os st2 vs H2 μ2 Fv2 F2 e2 m2 r2 rep2 d2 l2 x2 q2 => ?_⟩
  refine q2 (v1 :: vs) H2 μ2 (fun _ => False) F2 (m1.trans m2) (.cons (r0.kp0 m2 x2.kp) r2) rep2 (fun _ z => z.elim) (fun _ z => z.elim) ?_
  exact (x1.trans (x2.frame (G := Fv1))).imp fun a z => z.elim False.elim fun z => .inr (.inr z)
theorem xFz_frz {f : XE} : ∀ st o st', xFz f st = .ok o st' → frz o = o := fun st o st' e => by
  unfold xFz at e
  cases q : f st with
  | ok o1 st1 =>
    rw [q] at e
    cases e
    cases o1 <;> rfl
  | exc c st1 => rw [q] at e; cases e
  | no => rw [q] at e; cases e
theorem sa_cons (ha : SE X W e f) {g : St → Out (List O)} (hr : SA X W es g) (hs : starEach (e :: es) X.env = (false, eval e X.env) :: starEach es X.env := by rfl) : SA X W (e :: es) (aCons f g) := by
  have h := sa_cons0 (se_fz ha) xFz_frz hr hs
  have e : aCons (xFz f) g = aCons f g := by
    funext st
    unfold aCons xFz
    cases f st with
    | ok o st1 => cases o <;> rfl
    | exc c st1 => rfl
    | no => rfl
  rw [e] at h
  exact h
/-- all data -/
@[simp] def dats : List O → Option (List PyData)
  | [] => some []
  | .d x :: r => (dats r).map (x :: ·)
  | _ => none
theorem dats_ok {K : PySem.W.Frag} {μ : Mu} {H : Hp} : ∀ {os : List O} {vs : List V} {ds : List PyData}, Paired (Own K μ H (fun _ => False)) vs os → dats os = some ds → RpL K H vs ds
  | [], _, _, h, e => by cases h; cases e; exact .nil
  | o :: os, _, ds, h, e => by
    cases h with
    | cons a b =>
      cases a with
      | d r =>
        unfold dats at e
        cases q : dats os with
        | none => rw [q] at e; cases e
        | some ds' => rw [q] at e; cases e; exact .cons r (dats_ok b q)
      | obj r => cases e
      | xcp _ _ _ => cases e
      | tl _ _ _ _ _ _ _ _ => cases e
      | dct _ _ _ _ => cases e
      | dcl _ _ _ _ => cases e
      | lst _ _ z => exact z.elim
@[simp] def small (n : Nat) : Bool := decide (n ≤ 16000000)
theorem small_line {n : Nat} (h : small n = true) : n ≤ sizeLine := Nat.le_trans (of_decide_eq_true h) (by rw [sizeLine_eq]; decide)
theorem small_lt {n : Nat} (h : small n = true) : n < sizeLine := Nat.lt_of_le_of_lt (of_decide_eq_true h) (by rw [sizeLine_eq]; decide)
@[simp] def xTup (g : St → Out (List O)) : XE := fun st => bindO (g st) fun os st => match dats os with
  | some ds => if small ds.length then .ok (.d (.tuple ds)) st else .no
  | none => .no
@[simp] def xLst (g : St → Out (List O)) : XE := fun st => bindO (g st) fun os st => match dats os with
  | some ds => if small ds.length then .ok (.lst ds) st else .no
  | none => .no
theorem se_tup {g : St → Out (List O)} {x1} (h : SA X W es g) : SE X W (.Tuple es x1 pos) (xTup g) := by
  refine ⟨PE.imp (pe_tup h.pa) fun σ H Q ⟨st, F, μ, rep, q⟩ => ?_⟩
  refine ⟨st, F, μ, rep, Aft.bind (Fv := fun _ => False) q (List.prefix_refl _) (Ext.refl fun a z => z.elim False.elim id) fun o1 st1 v1 H1 μ1 Fv1 F1 e1 m1 r1 rep1 d1 l1 x1 q1 => ?_⟩
  split at q1
  · rename_i ds e
    split at q1
    · rename_i s
      have rl := dats_ok r1 e
      exact ⟨small_line (by rw [rl.length]; exact s), (Aft.fin q1 m1 rep1 x1).tuple rl⟩
    · exact q1.elim
  · exact q1.elim
theorem se_lst {g : St → Out (List O)} (h : SA X W es g) : SE X W (.List es pos) (xLst g) := by
  refine ⟨PE.imp (pe_lst h.pa) fun σ H Q ⟨st, F, μ, rep, q⟩ => ?_⟩
  refine ⟨st, F, μ, rep, Aft.bind (Fv := fun _ => False) q (List.prefix_refl _) (Ext.refl fun a z => z.elim False.elim id) fun o1 st1 v1 H1 μ1 Fv1 F1 e1 m1 r1 rep1 d1 l1 x1 q1 => ?_⟩
  split at q1
  · rename_i ds e
    split at q1
    · rename_i s
      have rl := dats_ok r1 e
      exact ⟨small_line (by rw [rl.length]; exact s), (Aft.fin q1 m1 rep1 x1).list rl⟩
    · exact q1.elim
  · exact q1.elim
/-! ### calls of what is built in -/
structure VC (K : PySem.W.Frag) (r : List V → Hp → VK → Prop) (h : List O → Option O) : Prop where
  ok : ∀ (μ : Mu) (H : Hp) (vs : List V) (os : List O) (o : O) (Q : V → Hp → Prop), Paired (Own K μ H (fun _ => False)) vs os → h os = some o → Fin K μ H o Q → r vs H Q
@[simp] def xCB (h : List O → Option O) (g : St → Out (List O)) : XE := fun st => bindO (g st) fun os st => match h os with
  | some o => .ok o st
  | none => .no
theorem cb_core {r : List V → Hp → VK → Prop} {h : List O → Option O} {g : St → Out (List O)} {Q : V → Hp → Prop} (vc : VC X.K r h) (rep : Rep X.K σ μ H F st) (q : Aft X.K W σ (fun μ H Fv (v : V) o => Own X.K μ H Fv v o) (xCB h g st) μ H F Q) : tA X.K W g σ H fun vs H1 => r vs H1 Q := by
  refine ⟨st, F, μ, rep, Aft.bind (Fv := fun _ => False) q (List.prefix_refl _) (Ext.refl fun a z => z.elim False.elim id) fun o1 st1 v1 H1 μ1 Fv1 F1 e1 m1 r1 rep1 d1 l1 x1 q1 => ?_⟩
  split at q1
  · rename_i o e
    exact vc.ok μ1 H1 v1 o1 o Q r1 e (Aft.fin q1 m1 rep1 x1)
  · exact q1.elim
variable {x : Str} {p : Pos} {id T : String} {r : List V → Hp → VK → Prop} {h : List O → Option O} {g : St → Out (List O)}
theorem se_callB (hc : CallR X (.builtin id) r) (vc : VC X.K r h) (hm : X.mg x = none) (hv : bootBuiltins x = some (.builtin id)) (ha : SA X W (e :: es) g) (hg : Gl X x := by rfl) (hn : x ≠ "__name__" := by decide) (hdb : (x == ("__debug__" : Str)) = false := by decide)
    (he : starEach (e :: es) X.env = (false, eval e X.env) :: starEach es X.env := by rfl) (hpl : (backTo pos (starEach es X.env)).any (·.1) = false := by rfl) : SE X W (.Call (.Name x p) (e :: es) [] pos) (xCB h g) :=
  ⟨PE.imp (pe_callB hc hg hm hv ha.pa hn hdb he hpl) fun σ H Q ⟨st, F, μ, rep, q⟩ => cb_core vc rep q⟩
theorem se_callTy (hc : CallR X (.type T) r) (vc : VC X.K r h) (hm : X.mg x = none) (hv : bootBuiltins x = some (.type T)) (ha : SA X W (e :: es) g) (hg : Gl X x := by rfl) (hn : x ≠ "__name__" := by decide) (hdb : (x == ("__debug__" : Str)) = false := by decide)
    (he : starEach (e :: es) X.env = (false, eval e X.env) :: starEach es X.env := by rfl) (hpl : (backTo pos (starEach es X.env)).any (·.1) = false := by rfl) : SE X W (.Call (.Name x p) (e :: es) [] pos) (xCB h g) :=
  ⟨PE.imp (pe_callTy hc hg hm hv ha.pa hn hdb he hpl) fun σ H Q ⟨st, F, μ, rep, q⟩ => cb_core vc rep q⟩
/-- one argument, a name, read where it stands -/
structure VCw (K : PySem.W.Frag) (r : List V → Hp → VK → Prop) (h : O → Option PyData) : Prop where
  ok : ∀ (μ : Mu) (H : Hp) (F : FP) (v : V) (a : O) (d : PyData) (Q : V → Hp → Prop), Own K μ H F v a → h a = some d → (∀ v, Rp K H v d → Q v H) → r [v] H Q
@[simp] def xCBw (h : O → Option PyData) (i : Nat) : XE := fun st => match st.loc[i]? with
  | some (some a) => match h a with
    | some d => .ok (.d d) st
    | none => .no
  | _ => .no
theorem se_callBw {a : Expr} {h : O → Option PyData} (i : Nat) (hc : CallR X (.builtin id) r) (vc : VCw X.K r h) (hm : X.mg x = none) (hv : bootBuiltins x = some (.builtin id)) (ha : PE X a (tVar i)) (hg : Gl X x := by rfl) (hn : x ≠ "__name__" := by decide) (hdb : (x == ("__debug__" : Str)) = false := by decide)
    (he : starEach [a] X.env = (false, eval a X.env) :: starEach [] X.env := by rfl) (hpl : (backTo pos (starEach [] X.env)).any (·.1) = false := by rfl) : SE X W (.Call (.Name x p) [a] [] pos) (xCBw h i) :=
  ⟨PE.imp (pe_callB hc hg hm hv (pa_cons ha pa_nil he) hn hdb he hpl) fun σ H Q ⟨st, F, μ, rep, q⟩ => by
    unfold xCBw at q
    split at q
    · rename_i o e
      obtain ⟨v, h1, h2⟩ := rep.slot e
      split at q
      · rename_i d ed
        exact ⟨v, h1, vc.ok μ H F v o d Q h2 ed fun v' rp => q.datum rep rp⟩
      · exact q.elim
    · exact q.elim⟩
end
end Tr
namespace Tr
open PySem PySem.Spec PyProof.Rows L2

@[simp] def dataO : O → Option PyData
  | .d x => some x
  | .lst xs => some (.list xs)
  | _ => none
@[simp] def listO : O → Option (List PyData)
  | .d (.list xs) => some xs
  | .lst xs => some xs
  | _ => none
section
variable {K : PySem.W.Frag} {μ : Mu} {H : Hp} {F : FP} {v : V} {o : O}
theorem Own.dp {d : PyData} (h : Own K μ H F v o) (e : dataO o = some d) (c : SeqAt.shaped d = true) : Dp K H v d := by
  have c := SeqAt.canLay_of_shaped c
  cases h with
  | d r => cases e; exact Rp.dp _ c r
  | lst h1 h2 _ => cases e; exact .lst (SqL.of h1) (RpL.dp _ (by simpa [PyData.canLay0] using c) h2)
  | obj _ => cases e
  | xcp _ _ _ => cases e
  | tl _ _ _ _ _ _ _ _ => cases e
  | dct _ _ _ _ => cases e
  | dcl _ _ _ _ => cases e
theorem Own.list {ds : List PyData} (h : Own K μ H F v o) (e : listO o = some ds) : ∃ a xs, v = .ref a ∧ Rd H a (.lst xs) ∧ RpL K H xs ds := by
  cases h with
  | d r =>
    cases r with
    | lst a b => cases e; obtain ⟨ob, a⟩ := a; exact ⟨_, _, rfl, .inr ⟨ob, a⟩, b⟩
    | _ => cases e
  | lst h1 h2 _ => cases e; exact ⟨_, _, rfl, .inl h1, h2⟩
  | obj _ => cases e
  | xcp _ _ _ => cases e
  | tl _ _ _ _ _ _ _ _ => cases e
  | dct _ _ _ _ => cases e
  | dcl _ _ _ _ => cases e
theorem Own.int {i : Int} (h : Own K μ H F v (.d (.int i))) : v = .int i := by cases h with | d r => cases r; rfl
theorem Own.bool {i : Bool} (h : Own K μ H F v (.d (.bool i))) : v = .bl i := by cases h with | d r => cases r; rfl
theorem Own.str {i : Str} (h : Own K μ H F v (.d (.str i))) : v = .str i := by cases h with | d r => cases r; rfl
theorem Own.none (h : Own K μ H F v (.d .none)) : v = .non := by cases h with | d r => cases r; rfl
theorem Own.tuple {ds : List PyData} (h : Own K μ H F v (.d (.tuple ds))) : ∃ a xs, v = .ref a ∧ SqT K H a xs ∧ RpL K H xs ds := by
  cases h with
  | d r => cases r with | tup a b => exact ⟨_, _, rfl, a.sq, b⟩
theorem Own.rp {d : PyData} (h : Own K μ H F v (.d d)) : Rp K H v d := by cases h with | d r => exact r
end
/-! ### ints -/
@[simp] def oI (C : Int → Int → Bool) (g : Int → Int → PyData) : O → O → Option O
  | .d (.int i), .d (.int j) => if C i j then some (.d (g i j)) else none
  | _, _ => none
theorem oI_some {C : Int → Int → Bool} {g : Int → Int → PyData} {a b o : O} (h : oI C g a b = some o) : ∃ i j, a = .d (.int i) ∧ b = .d (.int j) ∧ C i j = true ∧ o = .d (g i j) := by
  unfold oI at h
  split at h
  · split at h
    · cases h; exact ⟨_, _, rfl, rfl, by assumption, rfl⟩
    · cases h
  · cases h
theorem v2_I {K : PySem.W.Frag} {C : Int → Int → Prop} {C' : Int → Int → Bool} {g : Int → Int → V} {g' : Int → Int → PyData} (hc : ∀ i j, C' i j = true → C i j) (hg : ∀ H i j, Rp K H (g i j) (g' i j)) : V2 K (rI C g) (oI C' g') := ⟨fun μ H F1 F2 x y a b o Q o1 o2 e f => by
  obtain ⟨i, j, rfl, rfl, c, rfl⟩ := oI_some e
  cases o1.int; cases o2.int
  exact ⟨i, j, rfl, rfl, hc i j c, f.datum (hg H i j)⟩⟩
theorem v2_I0 {K : PySem.W.Frag} {g : Int → Int → V} {g' : Int → Int → PyData} (hg : ∀ H i j, Rp K H (g i j) (g' i j)) : V2 K (rI0 g) (oI (fun _ _ => true) g') := ⟨fun μ H F1 F2 x y a b o Q o1 o2 e f => by
  obtain ⟨i, j, rfl, rfl, c, rfl⟩ := oI_some e
  cases o1.int; cases o2.int
  exact ⟨i, j, rfl, rfl, f.datum (hg H i j)⟩⟩
abbrev oAddI := oI (fun _ _ => true) fun i j => .int (i + j)
abbrev oSub := oI (fun _ _ => true) fun i j => .int (i - j)
@[simp] def cMul (i j : Int) : Bool := (decide (-18446744073709551616 < i) && decide (i < 18446744073709551616)) || (decide (-18446744073709551616 < j) && decide (j < 18446744073709551616))
@[simp] def cDiv (_i j : Int) : Bool := decide (0 < j) && decide (j < 1073741824)
@[simp] def cMod (_i j : Int) : Bool := decide (0 < j)
@[simp] def cPow (i j : Int) : Bool := decide (0 ≤ j) && (decide (j ≤ 1000000) && decide (i.natAbs < 18446744073709551616))
abbrev oMulI := oI cMul fun i j => .int (i * j)
abbrev oDiv := oI cDiv fun i j => .int (i / j)
abbrev oMod := oI cMod fun i j => .int (i % j)
abbrev oPow := oI cPow fun i j => .int (i ^ j.toNat)
abbrev oLt := oI (fun _ _ => true) fun i j => .bool (decide (i < j))
abbrev oLe := oI (fun _ _ => true) fun i j => .bool (decide (i ≤ j))
abbrev oGt := oI (fun _ _ => true) fun i j => .bool (decide (j < i))
abbrev oGe := oI (fun _ _ => true) fun i j => .bool (decide (j ≤ i))
/-! ### lists and tuples joined -/
@[simp] def oCatL : O → O → Option O := fun a b => match listO a, listO b with
  | some xs, some ys => if small (xs.length + ys.length) then some (.lst (xs ++ ys)) else none
  | _, _ => none
def rCatR : R2 := fun x y H Q => ∃ l b xs zs, x = .ref l ∧ y = .ref b ∧ Rd H l (.lst xs) ∧ Rd H b (.lst zs) ∧ xs.length + zs.length ≤ sizeLine ∧ ∀ p, H p = none → Q (.ref p) (upd H p (.lst (xs ++ zs)))
theorem op_catR {X : Cx} : OpR X (binaryOp .Add) rCatR := by
  intro pins s σ H x y v u Q I rx ry h
  obtain ⟨l, b, xs, zs, rfl, rfl, hH, hB, hz, q⟩ := h
  cases rx
  cases ry
  obtain ⟨z, its, n, r, e⟩ := hH.ok I.hok
  obtain ⟨z2, its2, n2, r2, e2⟩ := hB.ok I.hok
  have hl := r.length
  have hl2 := r2.length
  refine PySem.P.add_list e e2 ?_ (by rw [List.size_toArray, List.size_toArray]; omega)
  have ea : its.toArray ++ its2.toArray = (its ++ its2).toArray := by simp
  rw [ea]
  exact ⟨.ref _, _, I.lnew (t' := s.toks) (r.append r2) (by rw [List.length_append]; omega), rfl, q _ I.fresh⟩
theorem v2_catL {K : PySem.W.Frag} : V2 K rCatR oCatL := ⟨fun μ H F1 F2 x y a b o Q o1 o2 e f => by
  unfold oCatL at e
  split at e
  · rename_i ds es e1 e2
    split at e
    · rename_i sm
      cases e
      obtain ⟨l, xs, rfl, h1, r1⟩ := o1.list e1
      obtain ⟨l', ys, rfl, h2, r2⟩ := o2.list e2
      exact ⟨l, l', xs, ys, rfl, rfl, h1, h2, by rw [r1.length, r2.length]; exact small_line sm, f.list (r1.append r2)⟩
    · cases e
  · cases e⟩
@[simp] def oCatT : O → O → Option O
  | .d (.tuple xs), .d (.tuple ys) => if xs.isEmpty || ys.isEmpty || !small (xs.length + ys.length) then none else some (.d (.tuple (xs ++ ys)))
  | _, _ => none
theorem v2_catT {K : PySem.W.Frag} : V2 K (rCatT K) oCatT := ⟨fun μ H F1 F2 x y a b o Q o1 o2 e f => by
  unfold oCatT at e
  split at e
  · rename_i ds es
    split at e
    · cases e
    · rename_i sm
      cases e
      simp only [Bool.or_eq_true, not_or, Bool.not_eq_true] at sm
      obtain ⟨⟨n1, n2⟩, sm⟩ := sm
      obtain ⟨l, xs, rfl, h1, r1⟩ := o1.tuple
      obtain ⟨l', ys, rfl, h2, r2⟩ := o2.tuple
      have e1 : xs ≠ [] := fun z => by subst z; cases r1; cases n1
      have e2 : ys ≠ [] := fun z => by subst z; cases r2; cases n2
      refine ⟨l, l', xs, ys, rfl, rfl, h1, h2, e1, by rw [r1.length, r2.length]; exact small_line (by simpa using sm), fun z => (e2 z).elim, fun _ => f.tuple (r1.append r2)⟩
  · cases e⟩
@[simp] def oRep : O → O → Option O
  | .lst xs, .d (.int k) => if decide (-1000000 ≤ k) && (decide (k ≤ 1000000) && small (xs.length * k.toNat)) then some (.lst (List.replicate k.toNat xs).flatten) else none
  | _, _ => none
theorem v2_rep {K : PySem.W.Frag} : V2 K rRep oRep := ⟨fun μ H F1 F2 x y a b o Q o1 o2 e f => by
  unfold oRep at e
  split at e
  · split at e
    · rename_i sm
      cases e
      simp only [Bool.and_eq_true, decide_eq_true_eq] at sm
      obtain ⟨s1, s2, s3⟩ := sm
      cases o2.int
      cases o1 with
      | lst h1 h2 _ => exact ⟨_, _, _, rfl, rfl, h1, by omega, by omega, by rw [h2.length]; exact small_line s3, f.list (h2.rep _)⟩
    · cases e
  · cases e⟩
/-! ### texts joined -/
@[simp] def oCatS : O → O → Option O
  | .d (.str x), .d (.str y) => if small (x.length + y.length) then some (.d (.str (x ++ y))) else none
  | _, _ => none
abbrev rCatS : R2 := fun x y H Q => ∃ i j, x = .str i ∧ y = .str j ∧ i.length + j.length ≤ sizeLine ∧ Q (.str (i ++ j)) H
theorem v2_catS {K : PySem.W.Frag} : V2 K rCatS oCatS := ⟨fun μ H F1 F2 x y a b o Q o1 o2 e f => by
  unfold oCatS at e
  split at e
  · split at e
    · rename_i sm
      cases e
      cases o1.str; cases o2.str
      exact ⟨_, _, rfl, rfl, small_line sm, f.datum (.str _)⟩
    · cases e
  · cases e⟩
/-! ### ==, != -/
def shp (d : PyData) : Bool := SeqAt.shaped d
@[simp] def oEq : O → O → Option O := fun a b => match dataO a, dataO b with
  | some x, some y => if shp x && shp y then some (.d (.bool (PyData.eqv x y))) else none
  | _, _ => none
@[simp] def oNe : O → O → Option O := fun a b => match dataO a, dataO b with
  | some x, some y => if shp x && shp y then some (.d (.bool (!PyData.eqv x y))) else none
  | _, _ => none
theorem v2_eq {K : PySem.W.Frag} : V2 K (rEqD K) oEq := ⟨fun μ H F1 F2 x y a b o Q o1 o2 e f => by
  unfold oEq at e
  split at e
  · rename_i d1 d2 e1 e2
    split at e
    · rename_i sm
      cases e
      obtain ⟨s1, s2⟩ := Bool.and_eq_true_iff.mp sm
      exact ⟨_, _, o1.dp e1 s1, o2.dp e2 s2, s1, s2, f.datum (.bl _)⟩
    · cases e
  · cases e⟩
theorem v2_ne {K : PySem.W.Frag} : V2 K (rNeD K) oNe := ⟨fun μ H F1 F2 x y a b o Q o1 o2 e f => by
  unfold oNe at e
  split at e
  · rename_i d1 d2 e1 e2
    split at e
    · rename_i sm
      cases e
      obtain ⟨s1, s2⟩ := Bool.and_eq_true_iff.mp sm
      exact ⟨_, _, o1.dp e1 s1, o2.dp e2 s2, s1, s2, f.datum (.bl _)⟩
    · cases e
  · cases e⟩
/-! ### is -/
@[simp] def isNoneO : O → Bool
  | .d .none => true
  | _ => false
theorem isNone_ok {K : PySem.W.Frag} {μ : Mu} {H : Hp} {F : FP} {v : V} {o : O} (h : Own K μ H F v o) : decide (v = .non) = isNoneO o := by
  cases h with
  | d r => cases r <;> simp [isNoneO]
  | lst _ _ _ => simp [isNoneO]
  | obj _ => simp [isNoneO]
  | xcp _ _ _ => simp [isNoneO]
  | tl _ _ _ _ _ _ _ _ => simp [isNoneO]
  | dct _ _ _ _ => simp [isNoneO]
  | dcl _ _ _ _ => simp [isNoneO]
@[simp] def oIs : O → O → Option O
  | a, .d .none => some (.d (.bool (isNoneO a)))
  | .d (.bool x), .d (.bool y) => some (.d (.bool (decide (x = y))))
  | _, _ => none
@[simp] def oIsNot : O → O → Option O
  | a, .d .none => some (.d (.bool (!isNoneO a)))
  | .d (.bool x), .d (.bool y) => some (.d (.bool (!decide (x = y))))
  | _, _ => none
abbrev rIsX : R2 := fun x y H Q => (y = .non ∧ Q (.bl (decide (x = .non))) H) ∨ rIsB x y H Q
abbrev rIsNotX : R2 := fun x y H Q => (y = .non ∧ Q (.bl (!decide (x = .non))) H) ∨ rNotB x y H Q
theorem op_isX {X : Cx} : OpR X (compareOp .Is) rIsX := op_isN.or op_isBl
theorem op_isNotX {X : Cx} : OpR X (compareOp .IsNot) rIsNotX := op_notN.or op_notBl
theorem v2_is {K : PySem.W.Frag} : V2 K rIsX oIs := ⟨fun μ H F1 F2 x y a b o Q o1 o2 e f => by
  unfold oIs at e
  split at e
  · cases e
    cases o2.none
    rw [← isNone_ok o1] at f
    exact .inl ⟨rfl, f.datum (.bl _)⟩
  · cases e
    cases o1.bool; cases o2.bool
    exact .inr ⟨_, _, rfl, rfl, f.datum (.bl _)⟩
  · cases e⟩
theorem v2_isNot {K : PySem.W.Frag} : V2 K rIsNotX oIsNot := ⟨fun μ H F1 F2 x y a b o Q o1 o2 e f => by
  unfold oIsNot at e
  split at e
  · cases e
    cases o2.none
    rw [← isNone_ok o1] at f
    exact .inl ⟨rfl, f.datum (.bl _)⟩
  · cases e
    cases o1.bool; cases o2.bool
    exact .inr ⟨_, _, rfl, rfl, f.datum (.bl _)⟩
  · cases e⟩
/-! ### in -/
def inD (d : PyData) (ds : List PyData) : Bool := ds.any fun z => PyData.eqv z d
@[simp] def oInL (neg : Bool) : O → O → Option O := fun a b => match dataO a, listO b with
  | some d, some ds => if shp d && shp (.list ds) then some (.d (.bool (neg ^^ inD d ds))) else none
  | _, _ => none
@[simp] def oInT (neg : Bool) : O → O → Option O := fun a b => match dataO a, b with
  | some d, .d (.tuple ds) => if shp d && shp (.list ds) then some (.d (.bool (neg ^^ inD d ds))) else none
  | _, _ => none
theorem listData {o : O} {ds : List PyData} (h : listO o = some ds) : dataO o = some (.list ds) := by
  cases o with
  | d x => cases x <;> cases h; rfl
  | lst x => cases h; rfl
  | obj k => cases h
  | xcp _ => cases h
  | tl _ _ => cases h
  | dct _ => cases h
  | dcl _ => cases h
theorem v2_inL {K : PySem.W.Frag} : V2 K (rInD K) (oInL false) := ⟨fun μ H F1 F2 x y a b o Q o1 o2 e f => by
  unfold oInL at e
  split at e
  · rename_i d1 d2 e1 e2
    split at e
    · rename_i sm
      cases e
      obtain ⟨s1, s2⟩ := Bool.and_eq_true_iff.mp sm
      rw [Bool.false_xor] at f
      exact ⟨_, _, o1.dp e1 s1, o2.dp (listData e2) s2, s1, s2, f.datum (.bl _)⟩
    · cases e
  · cases e⟩
theorem v2_notInL {K : PySem.W.Frag} : V2 K (rNotInD K) (oInL true) := ⟨fun μ H F1 F2 x y a b o Q o1 o2 e f => by
  unfold oInL at e
  split at e
  · rename_i d1 d2 e1 e2
    split at e
    · rename_i sm
      cases e
      obtain ⟨s1, s2⟩ := Bool.and_eq_true_iff.mp sm
      rw [Bool.true_xor] at f
      exact ⟨_, _, o1.dp e1 s1, o2.dp (listData e2) s2, s1, s2, f.datum (.bl _)⟩
    · cases e
  · cases e⟩
def rInTu (K : PySem.W.Frag) (neg : Bool) : R2 := fun x y H Q => ∃ d ds, Dp K H x d ∧ Dp K H y (.tuple ds) ∧ SeqAt.shaped d = true ∧ SeqAt.shaped (.list ds) = true ∧ Q (.bl (neg ^^ inD d ds)) H
theorem op_inTu {X : Cx} (hu : X.A.units + 65 < cLine) : OpR X (compareOp .In) (rInTu X.K false) := by
  intro pins s σ H x y v u Q I rx ry h
  obtain ⟨d, ds, hd, he, sd, se, q⟩ := h
  obtain ⟨as, r1⟩ := Dp.reads I d x v hd rx
  obtain ⟨bs, r2⟩ := Dp.reads I (.tuple ds) y u he ry
  rw [Bool.false_xor] at q
  exact SeqAt.in_tuple_reads r2 r1 (SeqAt.canLay_of_shaped se) (SeqAt.canLay_of_shaped sd) (room_in_shaped sd hu) ⟨.bl _, H, I, rfl, q⟩
theorem op_notInTu {X : Cx} (hu : X.A.units + 65 < cLine) : OpR X (compareOp .NotIn) (rInTu X.K true) := by
  intro pins s σ H x y v u Q I rx ry h
  obtain ⟨d, ds, hd, he, sd, se, q⟩ := h
  obtain ⟨as, r1⟩ := Dp.reads I d x v hd rx
  obtain ⟨bs, r2⟩ := Dp.reads I (.tuple ds) y u he ry
  rw [Bool.true_xor] at q
  exact SeqAt.notIn_tuple_reads r2 r1 (SeqAt.canLay_of_shaped se) (SeqAt.canLay_of_shaped sd) (room_in_shaped sd hu) ⟨.bl _, H, I, rfl, q⟩
theorem shaped_tl (ds : List PyData) : SeqAt.shaped (.tuple ds) = SeqAt.shaped (.list ds) := by
  unfold SeqAt.shaped
  rw [PyData.canLay0, PyData.canLay0, PyData.depth, PyData.depth]
theorem v2_inT {K : PySem.W.Frag} (neg : Bool) : V2 K (rInTu K neg) (oInT neg) := ⟨fun μ H F1 F2 x y a b o Q o1 o2 e f => by
  unfold oInT at e
  split at e
  · rename_i d1 d2 e1
    split at e
    · rename_i sm
      cases e
      obtain ⟨s1, s2⟩ := Bool.and_eq_true_iff.mp sm
      exact ⟨_, _, o1.dp e1 s1, o2.dp rfl (by rw [shaped_tl]; exact s2), s1, s2, f.datum (.bl _)⟩
    · cases e
  · cases e⟩
/-! ### places -/
@[simp] def oIxL : O → O → Option O := fun a b => match listO a, b with
  | some xs, .d (.int i) => (atI xs i).map O.d
  | _, _ => none
@[simp] def oIxT : O → O → Option O
  | .d (.tuple xs), .d (.int i) => (atI xs i).map O.d
  | _, _ => none
theorem atI_rp {K : PySem.W.Frag} {H : Hp} {vs : List V} {ds : List PyData} {i : Int} {d : PyData} (h : RpL K H vs ds) (e : atI ds i = some d) : ∃ v, atI vs i = some v ∧ Rp K H v d := by
  unfold atI at e ⊢
  rw [h.length]
  cases q : ixN ds.length i with
  | none => rw [q] at e; cases e
  | some j => rw [q] at e; exact h.get e
theorem Rd.sq {K : PySem.W.Frag} {H : Hp} {a : Addr} {xs : List V} (h : Rd H a (.lst xs)) : SqL K H a xs := .inl h
theorem v2_ixL {K : PySem.W.Frag} : V2 K (rIxL K) oIxL := ⟨fun μ H F1 F2 x y a b o Q o1 o2 e f => by
  unfold oIxL at e
  split at e
  · rename_i xs i e1
    obtain ⟨d, e2, rfl⟩ := Option.map_eq_some_iff.mp e
    cases o2.int
    obtain ⟨p, vs, rfl, h1, r1⟩ := o1.list e1
    obtain ⟨v, e3, r3⟩ := atI_rp r1 e2
    exact ⟨p, vs, i, v, rfl, rfl, Rd.sq h1, e3, f.datum r3⟩
  · cases e⟩
theorem v2_ixT {K : PySem.W.Frag} : V2 K (rIxT K) oIxT := ⟨fun μ H F1 F2 x y a b o Q o1 o2 e f => by
  unfold oIxT at e
  split at e
  · rename_i xs i
    obtain ⟨d, e2, rfl⟩ := Option.map_eq_some_iff.mp e
    cases o2.int
    obtain ⟨p, vs, rfl, h1, r1⟩ := o1.tuple
    obtain ⟨v, e3, r3⟩ := atI_rp r1 e2
    exact ⟨p, vs, i, v, rfl, rfl, h1, e3, f.datum r3⟩
  · cases e⟩
@[simp] def oIx : O → O → Option O := orO oIxL oIxT
abbrev rIx2 (K : PySem.W.Frag) : R2 := fun x y H Q => rIxL K x y H Q ∨ rIxT K x y H Q
theorem ix_2 {X : Cx} : IxR X (rIx2 X.K) := ix_list.or ix_tup
theorem v2_ix {K : PySem.W.Frag} : V2 K (rIx2 K) oIx := v2_ixL.or v2_ixT
/-! ### built-ins -/
@[simp] def lenO : O → Option PyData
  | .d (.list xs) => some (.int xs.length)
  | .lst xs => some (.int xs.length)
  | .d (.tuple xs) => some (.int xs.length)
  | _ => none
theorem vcw_len {K : PySem.W.Frag} : VCw K (fun xs H Q => ∃ p ys, xs = [.ref p] ∧ (SqL K H p ys ∨ SqT K H p ys) ∧ Q (.int ys.length) H) lenO := ⟨fun μ H F v a d Q o1 e f => by
  unfold lenO at e
  split at e
  · cases e; obtain ⟨p, vs, rfl, h1, r1⟩ := o1.list rfl; exact ⟨p, vs, rfl, .inl (Rd.sq h1), by rw [r1.length]; exact f _ (.int _)⟩
  · cases e; obtain ⟨p, vs, rfl, h1, r1⟩ := o1.list rfl; exact ⟨p, vs, rfl, .inl (Rd.sq h1), by rw [r1.length]; exact f _ (.int _)⟩
  · cases e; obtain ⟨p, vs, rfl, h1, r1⟩ := o1.tuple; exact ⟨p, vs, rfl, .inr h1, by rw [r1.length]; exact f _ (.int _)⟩
  · cases e⟩
def one (h : O → Option O) : List O → Option O
  | [a] => h a
  | _ => none
theorem one_some {h : O → Option O} {os : List O} {o : O} (e : one h os = some o) : ∃ a, os = [a] ∧ h a = some o := by
  unfold one at e
  split at e
  · exact ⟨_, rfl, e⟩
  · cases e
theorem vc_one {K : PySem.W.Frag} {r : List V → Hp → VK → Prop} {h : O → Option O} (g : ∀ (μ : Mu) (H : Hp) (v : V) (a o : O) (Q : V → Hp → Prop), Own K μ H (fun _ => False) v a → h a = some o → Fin K μ H o Q → r [v] H Q) : VC K r (one h) := ⟨fun μ H vs os o Q p e f => by
  obtain ⟨a, rfl, e2⟩ := one_some e
  cases p with
  | cons p1 p2 => cases p2; exact g μ H _ a o Q p1 e2 f⟩
theorem vc_w {K : PySem.W.Frag} {r : List V → Hp → VK → Prop} {h : O → Option PyData} (g : VCw K r h) : VC K r (one fun a => (h a).map O.d) := vc_one fun μ H v a o Q p e f => by
  obtain ⟨d, e2, rfl⟩ := Option.map_eq_some_iff.mp e
  exact g.ok μ H _ v a d Q p e2 fun v r => f.datum r
def lenC : List O → Option O := one fun a => (lenO a).map O.d
theorem vc_len {K : PySem.W.Frag} : VC K (fun xs H Q => ∃ p ys, xs = [.ref p] ∧ (SqL K H p ys ∨ SqT K H p ys) ∧ Q (.int ys.length) H) lenC := vc_w vcw_len
/-- the ints of a list -/
def intsD : List PyData → Option (List Int)
  | [] => some []
  | .int i :: r => (intsD r).map (i :: ·)
  | _ => none
theorem intsD_ok : ∀ {ds : List PyData} {ns : List Int}, intsD ds = some ns → ds = ns.map PyData.int
  | [], ns, e => by cases e; rfl
  | d :: ds, ns, e => by
    cases d with
    | int i =>
      unfold intsD at e
      obtain ⟨ms, e1, rfl⟩ := Option.map_eq_some_iff.mp e
      rw [intsD_ok e1]; rfl
    | _ => cases e
theorem intsD_map (ns : List Int) : intsD (ns.map PyData.int) = some ns := by
  induction ns with
  | nil => rfl
  | cons n r ih => rw [List.map_cons]; unfold intsD; rw [ih]; rfl
def boolsD : List PyData → Option (List Bool)
  | [] => some []
  | .bool i :: r => (boolsD r).map (i :: ·)
  | _ => none
theorem boolsD_ok {K : PySem.W.Frag} {H : Hp} : ∀ {ds : List PyData} {ns : List Bool} {vs : List V}, RpL K H vs ds → boolsD ds = some ns → vs = ns.map V.bl
  | [], ns, _, r, e => by cases e; cases r; rfl
  | d :: ds, ns, _, r, e => by
    cases d with
    | bool i =>
      unfold boolsD at e
      obtain ⟨ms, e1, rfl⟩ := Option.map_eq_some_iff.mp e
      cases r with
      | cons a b => cases a; rw [boolsD_ok b e1]; rfl
    | _ => cases e
def intsO (a : O) : Option (List Int) := (listO a).bind intsD
theorem intsO_ok {K : PySem.W.Frag} {μ : Mu} {H : Hp} {F : FP} {v : V} {a : O} {ns : List Int} (h : Own K μ H F v a) (e : intsO a = some ns) : ∃ p, v = .ref p ∧ SqL K H p (ns.map V.int) := by
  unfold intsO at e
  obtain ⟨ds, e1, e2⟩ := Option.bind_eq_some_iff.mp e
  obtain ⟨p, vs, rfl, h1, r1⟩ := h.list e1
  rw [intsD_ok e2] at r1
  rw [r1.intsV] at h1
  exact ⟨p, rfl, Rd.sq h1⟩
def sumC : List O → Option O := one fun a => (intsO a).map fun ns => .d (.int ns.sum)
theorem vc_sum {K : PySem.W.Frag} : VC K (rSum K) sumC := vc_one fun μ H v a o Q p e f => by
  obtain ⟨ns, e2, rfl⟩ := Option.map_eq_some_iff.mp e
  obtain ⟨q, rfl, h⟩ := intsO_ok p e2
  exact ⟨q, ns, rfl, h, f.datum (.int _)⟩
/-- the greatest of a list -/
def maxI : List Int → Option Int
  | [] => none
  | x :: r => match maxI r with
    | none => some x
    | some m => some (if m < x then x else m)
def minI : List Int → Option Int
  | [] => none
  | x :: r => match minI r with
    | none => some x
    | some m => some (if x < m then x else m)
theorem maxI_spec : ∀ {ns : List Int} {m : Int}, maxI ns = some m → m ∈ ns ∧ ∀ y ∈ ns, y ≤ m
  | [], m, e => by cases e
  | x :: r, m, e => by
    unfold maxI at e
    cases q : maxI r with
    | none =>
      rw [q] at e
      cases e
      cases r with
      | nil => exact ⟨by simp, by simp⟩
      | cons a b => unfold maxI at q; split at q <;> cases q
    | some m' =>
      rw [q] at e
      obtain ⟨h1, h2⟩ := maxI_spec q
      have e : (if m' < x then x else m') = m := Option.some.inj e
      split at e
      · subst e
        exact ⟨by simp, fun y hy => by rcases List.mem_cons.mp hy with z | z; omega; have := h2 y z; omega⟩
      · subst e
        exact ⟨List.mem_cons_of_mem _ h1, fun y hy => by rcases List.mem_cons.mp hy with z | z; omega; exact h2 y z⟩
theorem minI_spec : ∀ {ns : List Int} {m : Int}, minI ns = some m → m ∈ ns ∧ ∀ y ∈ ns, m ≤ y
  | [], m, e => by cases e
  | x :: r, m, e => by
    unfold minI at e
    cases q : minI r with
    | none =>
      rw [q] at e
      cases e
      cases r with
      | nil => exact ⟨by simp, by simp⟩
      | cons a b => unfold minI at q; split at q <;> cases q
    | some m' =>
      rw [q] at e
      obtain ⟨h1, h2⟩ := minI_spec q
      have e : (if x < m' then x else m') = m := Option.some.inj e
      split at e
      · subst e
        exact ⟨by simp, fun y hy => by rcases List.mem_cons.mp hy with z | z; omega; have := h2 y z; omega⟩
      · subst e
        exact ⟨List.mem_cons_of_mem _ h1, fun y hy => by rcases List.mem_cons.mp hy with z | z; omega; exact h2 y z⟩
def maxC : List O → Option O := one fun a => (intsO a).bind fun ns => (maxI ns).map fun m => .d (.int m)
def minC : List O → Option O := one fun a => (intsO a).bind fun ns => (minI ns).map fun m => .d (.int m)
theorem vc_max {K : PySem.W.Frag} : VC K (rMax K) maxC := vc_one fun μ H v a o Q p e f => by
  obtain ⟨ns, e2, e3⟩ := Option.bind_eq_some_iff.mp e
  obtain ⟨m, e4, rfl⟩ := Option.map_eq_some_iff.mp e3
  obtain ⟨q, rfl, h⟩ := intsO_ok p e2
  obtain ⟨h1, h2⟩ := maxI_spec e4
  refine ⟨q, ns, rfl, h, List.length_pos_of_mem h1, fun m' g1 g2 => ?_⟩
  have z : m' = m := Int.le_antisymm (h2 m' g1) (g2 m h1)
  rw [z]; exact f.datum (.int _)
theorem vc_min {K : PySem.W.Frag} : VC K (rMin K) minC := vc_one fun μ H v a o Q p e f => by
  obtain ⟨ns, e2, e3⟩ := Option.bind_eq_some_iff.mp e
  obtain ⟨m, e4, rfl⟩ := Option.map_eq_some_iff.mp e3
  obtain ⟨q, rfl, h⟩ := intsO_ok p e2
  obtain ⟨h1, h2⟩ := minI_spec e4
  refine ⟨q, ns, rfl, h, List.length_pos_of_mem h1, fun m' g1 g2 => ?_⟩
  have z : m' = m := Int.le_antisymm (g2 m h1) (h2 m' g1)
  rw [z]; exact f.datum (.int _)
def allC : List O → Option O := one fun a => (listO a).bind fun ds => (boolsD ds).map fun bs => .d (.bool (bs.all id))
def anyC : List O → Option O := one fun a => (listO a).bind fun ds => (boolsD ds).map fun bs => .d (.bool (bs.any id))
theorem vc_all {K : PySem.W.Frag} : VC K (rAll K) allC := vc_one fun μ H v a o Q p e f => by
  obtain ⟨ds, e2, e3⟩ := Option.bind_eq_some_iff.mp e
  obtain ⟨bs, e4, rfl⟩ := Option.map_eq_some_iff.mp e3
  obtain ⟨q, vs, rfl, h, r⟩ := p.list e2
  rw [boolsD_ok r e4] at h
  exact ⟨q, bs, rfl, Rd.sq h, f.datum (.bl _)⟩
theorem vc_any {K : PySem.W.Frag} : VC K (rAny K) anyC := vc_one fun μ H v a o Q p e f => by
  obtain ⟨ds, e2, e3⟩ := Option.bind_eq_some_iff.mp e
  obtain ⟨bs, e4, rfl⟩ := Option.map_eq_some_iff.mp e3
  obtain ⟨q, vs, rfl, h, r⟩ := p.list e2
  rw [boolsD_ok r e4] at h
  exact ⟨q, bs, rfl, Rd.sq h, f.datum (.bl _)⟩
def absC : List O → Option O := one fun a => match a with
  | .d (.int i) => some (.d (.int (if i < 0 then -i else i)))
  | _ => none
theorem vc_abs {K : PySem.W.Frag} : VC K (fun xs H Q => ∃ i, xs = [.int i] ∧ Q (.int (if i < 0 then -i else i)) H) absC := vc_one fun μ H v a o Q p e f => by
  split at e
  · cases e; cases p.int; exact ⟨_, rfl, f.datum (.int _)⟩
  · cases e
/-- list(x), tuple(x) -/
def seqO : O → Option (List PyData)
  | .d (.list xs) => some xs
  | .lst xs => some xs
  | .d (.tuple xs) => some xs
  | _ => none
theorem seqO_ok {K : PySem.W.Frag} {μ : Mu} {H : Hp} {F : FP} {v : V} {a : O} {ds : List PyData} (h : Own K μ H F v a) (e : seqO a = some ds) : ∃ p vs, v = .ref p ∧ (SqL K H p vs ∨ SqT K H p vs) ∧ RpL K H vs ds := by
  unfold seqO at e
  split at e
  · cases e; obtain ⟨p, vs, rfl, h1, r1⟩ := h.list rfl; exact ⟨p, vs, rfl, .inl (Rd.sq h1), r1⟩
  · cases e; obtain ⟨p, vs, rfl, h1, r1⟩ := h.list rfl; exact ⟨p, vs, rfl, .inl (Rd.sq h1), r1⟩
  · cases e; obtain ⟨p, vs, rfl, h1, r1⟩ := h.tuple; exact ⟨p, vs, rfl, .inr h1, r1⟩
  · cases e
def listC : List O → Option O := one fun a => (seqO a).map O.lst
theorem vc_list {K : PySem.W.Frag} : VC K (fun xs H Q => ∃ p ys, xs = [.ref p] ∧ (SqL K H p ys ∨ SqT K H p ys) ∧ ∀ l, H l = none → Q (.ref l) (upd H l (.lst ys))) listC := vc_one fun μ H v a o Q p e f => by
  obtain ⟨ds, e2, rfl⟩ := Option.map_eq_some_iff.mp e
  obtain ⟨q, vs, rfl, h, r⟩ := seqO_ok p e2
  exact ⟨q, vs, rfl, h, f.list r⟩
def tupleC : List O → Option O := one fun a => (listO a).map fun ds => .d (.tuple ds)
theorem vc_tuple {K : PySem.W.Frag} : VC K (fun xs H Q => ∃ p ys, xs = [.ref p] ∧ ((SqL K H p ys ∧ ∀ l, H l = none → Q (.ref l) (upd H l (.tup ys))) ∨ (SqT K H p ys ∧ Q (.ref p) H))) tupleC := vc_one fun μ H v a o Q p e f => by
  obtain ⟨ds, e2, rfl⟩ := Option.map_eq_some_iff.mp e
  obtain ⟨q, vs, rfl, h, r⟩ := p.list e2
  exact ⟨q, vs, rfl, .inl ⟨Rd.sq h, f.tuple r⟩⟩
/-! ### isinstance(x, T) -/
@[simp] def tyO : O → Option String
  | .d .none => some "NoneType"
  | .d (.bool _) => some "bool"
  | .d (.int _) => some "int"
  | .d (.str _) => some "str"
  | .d (.list _) => some "list"
  | .lst _ => some "list"
  | .d (.tuple _) => some "tuple"
  | _ => none
theorem tyO_ok {K : PySem.W.Frag} {μ : Mu} {H : Hp} {F : FP} {v : V} {a : O} {t : String} (h : Own K μ H F v a) (e : tyO a = some t) : TyX K H v (.type t) := by
  cases h with
  | d r =>
    cases r with
    | non => cases e; exact .base .non
    | bl b => cases e; exact .base (.bl b)
    | int i => cases e; exact .base (.int i)
    | str x => cases e; exact .base (.str x)
    | lst h _ => cases e; obtain ⟨ob, h⟩ := h; exact .base (.frz h)
    | dct _ _ _ => cases e
    | tup h _ =>
      cases e
      rcases h with h | h
      · exact .base (.tup h)
      · rcases h with (h | ⟨ob, h⟩) | ⟨ob, its, n, h1, h2, _⟩
        · cases h
        · cases h
        · exact .kTuple h1 h2
  | lst h _ _ => cases e; exact .base (.lst h)
  | obj _ => cases e
  | xcp _ _ _ => cases e
  | tl _ _ _ _ _ _ _ _ => cases e
  | dct _ _ _ _ => cases e
  | dcl _ _ _ _ => cases e
end Tr
namespace Tr
open PySem PySem.Spec PyProof.Rows L2

/-! ### statements -/
inductive Fl where
  | next
  | ret (o : O)
  | brk
  | cont
abbrev XS := St → Out Fl
/-- what is wanted behind a statement -/
def AftS (K : PySem.W.Frag) (W : WX) (out : Out Fl) (μ : Mu) (H : Hp) (F : FP) (D : Ends) : Prop :=
  match out with
  | .ok .next st => ∀ σ' H' μ' F', μ <+: μ' → Rep K σ' μ' H' F' st → Ext H F H' F' → D.nx σ' H'
  | .ok .brk st => ∀ σ' H' μ' F', μ <+: μ' → Rep K σ' μ' H' F' st → Ext H F H' F' → D.bk σ' H'
  | .ok .cont st => ∀ σ' H' μ' F', μ <+: μ' → Rep K σ' μ' H' F' st → Ext H F H' F' → D.ct σ' H'
  | .ok (.ret o) st => ∀ v σ' H' μ' Fv F', μ <+: μ' → Own K μ' H' Fv v o → Rep K σ' μ' H' F' st → (∀ x, Fv x → F' x → False) → (∀ x, Fv x → H' x ≠ none) → Ext H F H' (fun x => Fv x ∨ F' x) → D.rt v H'
  | .exc c st => ∀ σ' H' μ' F', μ <+: μ' → Rep K σ' μ' H' F' st → Ext H F H' F' → W (.ref (He.ga K c)) none σ' H'
  | .no => False
def tS (K : PySem.W.Frag) (W : WX) (f : XS) : TS := fun D σ H => ∃ st F μ, Rep K σ μ H F st ∧ AftS K W (f st) μ H F D
structure SS (X : Cx) (W : WX) (s : Stmt) (f : XS) : Prop where
  ps : PS X s (tS X.K W f)
structure SSs (X : Cx) (W : WX) (s : List Stmt) (f : XS) : Prop where
  pss : PSs X s (tS X.K W f)
section
variable {K : PySem.W.Frag} {W : WX} {σ : L2.St} {μ μ0 μ1 : Mu} {H H0 H1 : Hp} {F F0 F1 G Fv : FP} {st : St} {out : Out Fl} {D : Ends}
theorem AftS.shift (h : AftS K W out μ0 H0 F0 D) (m : μ0 <+: μ1) (x : Ext H0 F0 H1 F1) : AftS K W out μ1 H1 F1 D := by
  cases out with
  | ok a st =>
    cases a with
    | next => exact fun σ' H' μ' F' q1 q2 q3 => h σ' H' μ' F' (m.trans q1) q2 (x.trans q3)
    | brk => exact fun σ' H' μ' F' q1 q2 q3 => h σ' H' μ' F' (m.trans q1) q2 (x.trans q3)
    | cont => exact fun σ' H' μ' F' q1 q2 q3 => h σ' H' μ' F' (m.trans q1) q2 (x.trans q3)
    | ret o => exact fun v σ' H' μ' Fv F' q1 q2 q3 q4 q5 q6 => h v σ' H' μ' Fv F' (m.trans q1) q2 q3 q4 q5 (x.trans q6)
  | exc c st => exact fun σ' H' μ' F' q1 q2 q3 => h σ' H' μ' F' (m.trans q1) q2 (x.trans q3)
  | no => exact h
/-- an expression, then the rest of a statement -/
theorem AftS.bind {α β : Type} {R : RTy α β} {out : Out α} {k : α → St → Out Fl} {Q1 : β → Hp → Prop} (h : AftS K W (bindO out k) μ H F D)
    (step : ∀ a st' b H' μ' Fv' F', out = .ok a st' → μ <+: μ' → R μ' H' Fv' b a → Rep K σ μ' H' F' st' → (∀ x, Fv' x → F' x → False) → (∀ x, Fv' x → H' x ≠ none) → Ext H F H' (fun x => Fv' x ∨ F' x) →
      AftS K W (k a st') μ H F D → Q1 b H') : Aft K W σ R out μ H F Q1 := by
  cases out with
  | ok a st => exact fun b H' μ' Fv' F' q1 q2 q3 q4 q5 q6 => step a st b H' μ' Fv' F' rfl q1 q2 q3 q4 q5 q6 h
  | exc c st => exact fun H' μ' F' q1 q2 q3 => h σ H' μ' F' q1 q2 q3
  | no => exact h
/-- .. the second one, something of the first one in hand -/
theorem AftS.bind2 {α β : Type} {R : RTy α β} {out : Out α} {k : α → St → Out Fl} {Q1 : β → Hp → Prop} (h : AftS K W (bindO out k) μ0 H0 F0 D) (m : μ0 <+: μ) (x : Ext H0 F0 H (fun a => Fv a ∨ F a))
    (step : ∀ a st' b H' μ' Fv' F', out = .ok a st' → μ <+: μ' → R μ' H' Fv' b a → Rep K σ μ' H' F' st' → (∀ x, Fv' x → F' x → False) → (∀ x, Fv' x → H' x ≠ none) → Ext H F H' (fun x => Fv' x ∨ F' x) →
      AftS K W (k a st') μ0 H0 F0 D → Q1 b H') : Aft K W σ R out μ H F Q1 := by
  cases out with
  | ok a st => exact fun b H' μ' Fv' F' q1 q2 q3 q4 q5 q6 => step a st b H' μ' Fv' F' rfl q1 q2 q3 q4 q5 q6 h
  | exc c st => exact fun H' μ' F' q1 q2 q3 => h σ H' μ' F' (m.trans q1) q2 (x.trans ((q3.frame (G := Fv)).imp fun _ z => .inr z))
  | no => exact h
theorem AftS.next (h : AftS K W (.ok .next st) μ0 H0 F0 D) (m : μ0 <+: μ) (r : Rep K σ μ H F st) (x : Ext H0 F0 H F) : D.nx σ H := h σ H μ F m r x
end
section
variable {X : Cx} {W : WX} {a b c e : Expr} {es : List Expr} {fa fb fc f : XE} {ga : St → Out Bool} {pos : Pos} {s : Stmt} {rest body : List Stmt} {f1 f2 : XS} {σ : L2.St} {H : Hp} {st : St} {F : FP} {μ : Mu}
@[simp] def sNext : XS := fun st => .ok .next st
@[simp] def sSeq (f g : XS) : XS := fun st => bindO (f st) fun fl st => match fl with
  | .next => g st
  | fl => .ok fl st
theorem sss_nil : SSs X W [] sNext := ⟨PSs.imp pss_nil fun D σ H ⟨st, F, μ, rep, q⟩ => q.next (List.prefix_refl _) rep (Ext.refl fun _ z => z)⟩
theorem sss_cons (h1 : SS X W s f1) (h2 : SSs X W rest f2) : SSs X W (s :: rest) (sSeq f1 f2) := by
  refine ⟨PSs.imp (pss_cons h1.ps h2.pss) fun D σ H ⟨st, F, μ, rep, q⟩ => ?_⟩
  refine ⟨st, F, μ, rep, ?_⟩
  unfold sSeq bindO at q
  cases e : f1 st with
  | ok fl st1 =>
    rw [e] at q
    cases fl with
    | next => exact fun σ' H' μ' F' q1 q2 q3 => ⟨st1, F', μ', q2, AftS.shift q q1 q3⟩
    | brk => exact q
    | cont => exact q
    | ret o => exact q
  | exc c st1 => rw [e] at q; exact q
  | no => rw [e] at q; exact q
theorem sss_one (h1 : SS X W s f1) : SSs X W [s] f1 := ⟨pss_one h1.ps⟩
theorem ss_pass : SS X W (.Pass pos) sNext := ⟨PS.imp ps_pass fun D σ H ⟨st, F, μ, rep, q⟩ => q.next (List.prefix_refl _) rep (Ext.refl fun _ z => z)⟩
@[simp] def sBrk : XS := fun st => .ok .brk st
theorem ss_break : SS X W (.Break pos) sBrk := ⟨PS.imp ps_break fun D σ H ⟨st, F, μ, rep, q⟩ => q σ H μ F (List.prefix_refl _) rep (Ext.refl fun _ z => z)⟩
/-- a value dropped -/
@[simp] def sExpr (f : XE) : XS := fun st => bindO (f st) fun _ st => .ok .next st
theorem ss_expr (h : SE X W e f) (hs : swapsWith e none pos.line X.env = pure false := by rfl) : SS X W (.Expr e pos) (sExpr f) := by
  refine ⟨PS.imp (ps_expr h.pe hs) fun D σ H ⟨st, F, μ, rep, q⟩ => ?_⟩
  exact ⟨st, F, μ, rep, AftS.bind q fun o st' v H' μ' Fv' F' eo m r rep' dj lv x h2 => h2.next m rep' (x.imp fun a z => .inr z)⟩
/-- return: what comes is the caller's -/
@[simp] def sRet (f : XE) : XS := fun st => bindO (f st) fun o st => .ok (.ret o) st
theorem ss_ret (h : SE X W e f) : SS X W (.Return (some e) pos) (sRet f) := by
  refine ⟨PS.imp (ps_ret h.pe) fun D σ H ⟨st, F, μ, rep, q⟩ => ?_⟩
  exact ⟨st, F, μ, rep, AftS.bind q fun o st' v H' μ' Fv' F' eo m r rep' dj lv x h2 => h2 v σ H' μ' Fv' F' m r rep' dj lv x⟩
/-- return of a name: its list goes along -/
@[simp] def sRetV (i : Nat) : XS := fun st => match st.loc[i]? with
  | some (some o) => .ok (.ret o) { st with loc := st.loc.set i none }
  | _ => .no
theorem Rep.drop {K : PySem.W.Frag} (h : Rep K σ μ H F st) {i : Nat} {o : O} (e : st.loc[i]? = some (some o)) : ∃ v Fv F', σ[i]? = some (some v) ∧ Own K μ H Fv v o ∧ Rep K σ μ H F' { st with loc := st.loc.set i none } ∧ (∀ x, Fv x → F' x → False) ∧ (∀ x, Fv x → F x) ∧ (∀ x, F' x → F x) := by
  obtain ⟨S, R, h1, h2, h3, h4, h5, h6, h7⟩ := h.ex
  obtain ⟨v, q1, q2⟩ := h1 i o e
  refine ⟨v, S i, fun x => F x ∧ ¬ S i x, q1, q2, ⟨⟨fun j x => S j x ∧ ¬ S i x, R, fun j o' e' => ?_, h2, fun j j' x z z' => h3 j j' x z.1 z'.1, h4, fun j k x z z' => h5 j k x z.1 z', fun j x z => ⟨h6 j x z.1, z.2⟩, fun k x z => ⟨h7 k x z, fun w => h5 i k x w z⟩⟩, fun x z => h.live x z.1, h.mu, ?_⟩, fun x z z' => z'.2 z, fun x z => h6 i x z, fun x z => z.1⟩
  · by_cases hj : i = j
    · subst hj
      have hi := (List.getElem?_eq_some_iff.mp e).1
      have e2 : (st.loc.set i none)[i]? = some (some o') := e'
      rw [List.getElem?_set_self hi] at e2
      cases e2
    · have e2 : (st.loc.set i none)[j]? = some (some o') := e'
      rw [List.getElem?_set_ne hj] at e2
      obtain ⟨w, r1, r2⟩ := h1 j o' e2
      exact ⟨w, r1, r2.mono fun x z => ⟨z, fun w' => hj (h3 i j x w' z)⟩⟩
  · show (st.loc.set i none).length = _
    rw [List.length_set]; exact h.len
theorem ss_retv (i : Nat) (h : PE X e (tVar i)) : SS X W (.Return (some e) pos) (sRetV i) := by
  refine ⟨PS.imp (ps_ret h) fun D σ H ⟨st, F, μ, rep, q⟩ => ?_⟩
  unfold sRetV at q
  split at q
  · rename_i o e
    obtain ⟨v, Fv, F', h1, h2, h3, h4, h5, h6⟩ := rep.drop e
    exact ⟨v, h1, q v σ H μ Fv F' (List.prefix_refl _) h2 h3 h4 (fun x z => rep.live x (h5 x z)) (Ext.refl fun x z => z.elim (h5 x) (h6 x))⟩
  · exact q.elim
@[simp] def sRetN : XS := fun st => .ok (.ret (.d .none)) st
theorem ss_retN : SS X W (.Return none pos) sRetN := ⟨PS.imp ps_retN fun D σ H ⟨st, F, μ, rep, q⟩ =>
  q .non σ H μ (fun _ => False) F (List.prefix_refl _) (.d .non) rep (fun _ z => z.elim) (fun _ z => z.elim) (Ext.refl fun a z => z.elim False.elim id)⟩
@[simp] def sIf (g : St → Out Bool) (f1 f2 : XS) : XS := fun st => bindO (g st) fun b st => match b with
  | true => f1 st
  | false => f2 st
theorem ss_if {a b : List Stmt} (hc : ST X W c ga) (ha : SSs X W a f1) (hb : SSs X W b f2) : SS X W (.If c a b pos) (sIf ga f1 f2) := by
  refine ⟨PS.imp (ps_if hc.pt ha.pss hb.pss) fun D σ H ⟨st, F, μ, rep, q⟩ => ?_⟩
  refine ⟨st, F, μ, rep, AftS.bind q fun o st' v H' μ' Fv' F' eo m r rep' dj lv x h2 => ?_⟩
  subst r
  cases v with
  | true => rw [if_pos rfl]; exact ⟨st', F', μ', rep', h2.shift m (x.imp fun a z => .inr z)⟩
  | false => rw [if_neg (by simp)]; exact ⟨st', F', μ', rep', h2.shift m (x.imp fun a z => .inr z)⟩

/-! ### targets -/
abbrev XG := O → St → Option St
def tG (K : PySem.W.Frag) (vs : List Nat) (g : XG) : TG := fun v σ H Q => ∃ o st F Fv μ, Own K μ H Fv v o ∧ Rep K σ μ H F st ∧ (∀ x, Fv x → F x → False) ∧ (∀ x, Fv x → H x ≠ none) ∧
  match g o st with
  | some st' => ∀ σ' F', Rep K σ' μ H F' st' → (∀ x, F' x → Fv x ∨ F x) → wipe σ' vs = wipe σ vs → Q σ' H
  | none => False
structure SG (X : Cx) (tg : Expr) (vs : List Nat) (g : XG) : Prop where
  pg : PG X tg (tG X.K vs g)
theorem PG.imp {X : Cx} {e : Expr} {t t' : TG} (h : PG X e t) (w : ∀ v σ H Q, t' v σ H Q → t v σ H Q) : PG X e t' := ⟨fun pins s σ H v u Q I r q => h.run pins s σ H v u Q I r (w v σ H Q q)⟩
@[simp] def gN (i : Nat) : XG := fun o st => if i < st.loc.length then some { st with loc := st.loc.set i (some o) } else none
theorem wipe_set {σ : L2.St} {i : Nat} {x : Option V} : ∀ {vs : List Nat}, i ∈ vs → wipe (σ.set i x) vs = wipe σ vs
  | v :: vs, h => by
    unfold wipe
    rcases List.mem_cons.mp h with e | h
    · subst e
      by_cases hm : i ∈ vs
      · rw [wipe_set hm]
      · have : ∀ (ws : List Nat), i ∉ ws → wipe (σ.set i x) ws = (wipe σ ws).set i x := by
          intro ws
          induction ws with
          | nil => intro _; rfl
          | cons w ws ih =>
            intro hw
            unfold wipe
            rw [ih fun z => hw (List.mem_cons_of_mem _ z), List.set_comm _ _ (fun z => hw (by rw [z]; exact List.mem_cons_self))]
        rw [this vs hm, List.set_set]
    · rw [wipe_set h]
theorem sg_name (i : Nat) {x : Str} {vs : List Nat} (h : PG X (.Name x pos) (gName i)) (hi : i ∈ vs := by decide) : SG X (.Name x pos) vs (gN i) := by
  have hv := hi
  refine ⟨PG.imp h fun v σ H Q ⟨o, st, F, Fv, μ, ow, rep, dj, lv, q⟩ => ?_⟩
  unfold gN at q
  split at q
  · rename_i st' e
    split at e
    · rename_i hi
      cases e
      exact q _ _ (rep.put hi ow dj lv (fun _ _ => rfl) (Kp.refl H)) (fun x z => z) (wipe_set hv)
    · cases e
  · exact q.elim
/-- several, from data -/
structure SGs (X : Cx) (ts : List Expr) (ws : List Nat) (g : List PyData → St → Option St) : Prop where
  pgs : PGs X ts (fun vs σ H Q => ∃ ds st F μ, RpL X.K H vs ds ∧ Rep X.K σ μ H F st ∧ match g ds st with
    | some st' => ∀ σ' F', Rep X.K σ' μ H F' st' → (∀ x, F' x → F x) → wipe σ' ws = wipe σ ws → Q σ' H
    | none => False)
theorem PGs.imp {X : Cx} {e : List Expr} {t t' : TGs} (h : PGs X e t) (w : ∀ v σ H Q, t' v σ H Q → t v σ H Q) : PGs X e t' := ⟨fun pins s σ H v u Q I r q => h.run pins s σ H v u Q I r (w v σ H Q q)⟩
@[simp] def gsNil : List PyData → St → Option St := fun ds st => match ds with
  | [] => some st
  | _ => none
@[simp] def gsCons (g : XG) (gs : List PyData → St → Option St) : List PyData → St → Option St := fun ds st => match ds with
  | d :: r => (g (.d d) st).bind (gs r)
  | [] => none
theorem sgs_nil {ws : List Nat} : SGs X [] ws gsNil := by
  refine ⟨PGs.imp pgs_nil fun vs σ H Q ⟨ds, st, F, μ, rl, rep, q⟩ => ?_⟩
  cases ds with
  | nil => cases rl; exact ⟨rfl, q σ F rep (fun _ z => z) rfl⟩
  | cons d r => exact q.elim
theorem sgs_cons {g : XG} {gs : List PyData → St → Option St} {ws : List Nat} (h : SG X e ws g) (hs : SGs X es ws gs) (hp : (assignEach (e :: es) X.env).map (·.2) = assign e X.env :: (assignEach es X.env).map (·.2) := by rfl) : SGs X (e :: es) ws (gsCons g gs) := by
  refine ⟨PGs.imp (pgs_cons h.pg hs.pgs hp) fun vs σ H Q ⟨ds, st, F, μ, rl, rep, q⟩ => ?_⟩
  cases ds with
  | nil => exact q.elim
  | cons d r =>
    cases rl with
    | cons r1 r2 =>
      refine ⟨_, _, rfl, .d d, st, F, fun _ => False, μ, .d r1, rep, fun _ z => z.elim, fun _ z => z.elim, ?_⟩
      unfold gsCons at q
      cases e1 : g (.d d) st with
      | none => dsimp only at q; rw [e1] at q; exact q.elim
      | some st1 =>
        dsimp only at q
        rw [e1] at q
        refine fun σ' F' rep' sub wp => ⟨r, st1, F', μ, r2, rep', ?_⟩
        cases e2 : gs r st1 with
        | none => rw [show (some st1).bind (gs r) = gs r st1 from rfl, e2] at q; exact q.elim
        | some st2 =>
          rw [show (some st1).bind (gs r) = gs r st1 from rfl, e2] at q
          exact fun σ2 F2 rep2 sub2 wp2 => q σ2 F2 rep2 (fun x z => (sub x (sub2 x z)).elim False.elim id) (wp2.trans wp)
@[simp] def gTu (n : Nat) (gs : List PyData → St → Option St) : XG := fun o st => match o with
  | .d (.tuple ds) => if ds.length = n then gs ds st else none
  | _ => none
theorem sg_tup {k : Nat} {n : Nat} {gs : List PyData → St → Option St} {ws : List Nat} (hc : X.calm = true) (h : SGs X es ws gs) (hn : (assignEach es X.env).length = n := by rfl) (hst : (assignEach es X.env).findIdx? (·.1) = none := by rfl) : SG X (.Tuple es k pos) ws (gTu n gs) := by
  refine ⟨PG.imp (pg_tup hc h.pgs hn hst) fun v σ H Q ⟨o, st, F, Fv, μ, ow, rep, dj, lv, q⟩ => ?_⟩
  unfold gTu at q
  split at q
  · rename_i st' e
    split at e
    · rename_i ds
      split at e
      · rename_i hl
        obtain ⟨a, xs, rfl, h1, r1⟩ := ow.tuple
        refine ⟨a, xs, rfl, h1, by rw [r1.length]; exact hl, ds, st, F, μ, r1, rep, ?_⟩
        rw [e]
        exact fun σ' F' rep' sub wp => q σ' F' rep' (fun x z => .inr (sub x z)) wp
      · cases e
    · cases e
  · exact q.elim
/-- target = value -/
@[simp] def sAsg (f : XE) (g : XG) : XS := fun st => bindO (f st) fun o st => match g o st with
  | some st => .ok .next st
  | none => .no
theorem asg_core {g : XG} {D : Ends} {vs : List Nat} (rep : Rep X.K σ μ H F st) (q : AftS X.K W (sAsg f g st) μ H F D) : tE X.K W f σ H fun v H1 => tG X.K vs g v σ H1 D.nx := by
  refine ⟨st, F, μ, rep, AftS.bind q fun o st' v H' μ' Fv' F' eo m r rep' dj lv x h2 => ?_⟩
  refine ⟨o, st', F', Fv', μ', r, rep', dj, lv, ?_⟩
  cases e : g o st' with
  | none => rw [e] at h2; exact h2.elim
  | some st2 =>
    rw [e] at h2
    exact fun σ2 F2 rep2 sub _ => h2.next m rep2 (x.imp sub)
theorem ss_asg {tg : Expr} {g : XG} {vs : List Nat} (he : SE X W e f) (hg : SG X tg vs g) (hs : swapsWithSole [tg] e pos.line X.env = pure false := by rfl) (hw : swappedStores [tg] e X.env = pure none := by rfl)
    (h1 : (assignEach [tg] X.env).map (·.2) = [assign tg X.env] := by rfl) : SS X W (.Assign [tg] e pos) (sAsg f g) :=
  ⟨PS.imp (ps_asg he.pe hg.pg hs hw h1) fun D σ H ⟨st, F, μ, rep, q⟩ => asg_core rep q⟩
theorem ss_set (i : Nat) {x : Str} {pos' : Pos} (hN : X.N.Nodup) (hi : X.N[i]? = some x) (hx : Loc X.env.scope x) (he : SE X W e f) (hs : swapsWith e (some (.Name x pos')) pos.line X.env = pure false := by rfl) (hf : X.fn x = true ∨ X.env.scope.names.lookup x = some .local := by first | exact .inl rfl | exact .inr rfl | assumption) :
    SS X W (.Assign [.Name x pos'] e pos) (sAsg f (gN i)) :=
  ⟨PS.imp (ps_set hN hi hx he.pe hs hf) fun D σ H ⟨st, F, μ, rep, q⟩ => by
    refine ⟨st, F, μ, rep, AftS.bind q fun o st' v H' μ' Fv' F' eo m r rep' dj lv x h2 => ?_⟩
    unfold gN at h2
    split at h2
    · rename_i st2 e2
      split at e2
      · rename_i hi
        cases e2
        exact h2.next m (rep'.put hi r dj lv (fun _ _ => rfl) (Kp.refl H')) x
      · cases e2
    · exact h2.elim⟩
end
end Tr
namespace Tr
open PySem PySem.Spec PyProof.Rows L2

/-! ### calls of defs -/
inductive FOut where
  | ok (o : O) (g : List Cell)
  | exc (c : Str) (g : List Cell)
  | no
abbrev FSem := List O → List Cell → FOut
def GRep (K : PySem.W.Frag) (μ : Mu) (H : Hp) (F : FP) (g : List Cell) : Prop := Rep K [] μ H F ⟨[], g⟩
def spOf (K : PySem.W.Frag) (sem : FSem) (n : Nat) : Sp := fun vs H Q E => ∃ os g F μ, os.length = n ∧ Paired (Own K μ H (fun _ => False)) vs os ∧ GRep K μ H F g ∧ match sem os g with
  | .ok o g' => ∀ v H' μ' Fv F', μ <+: μ' → Own K μ' H' Fv v o → GRep K μ' H' F' g' → (∀ x, Fv x → F' x → False) → (∀ x, Fv x → H' x ≠ none) → Ext H F H' (fun x => Fv x ∨ F' x) → Q v H'
  | .exc c g' => ∀ H' μ' F', μ <+: μ' → GRep K μ' H' F' g' → Ext H F H' F' → E (.ref (He.ga K c)) none H'
  | .no => False
section
variable {K : PySem.W.Frag} {σ : L2.St} {μ μ' : Mu} {H H' : Hp} {F F' : FP} {st : St}
theorem Rep.glob (h : Rep K σ μ H F st) : GRep K μ H F st.g := by
  obtain ⟨S, R, h1, h2, h3, h4, h5, h6, h7⟩ := h.ex
  exact ⟨⟨fun _ _ => False, R, fun i o e => by simp at e, h2, fun _ _ _ z => z.elim, h4, fun _ _ _ z => z.elim, fun _ _ z => z.elim, h7⟩, h.live, h.mu, rfl⟩
/-- a call leaves the slots alone -/
theorem Rep.call (h : Rep K σ μ H F st) : ∃ Fg : FP, GRep K μ H Fg st.g ∧ ∀ (μ' : Mu) (H' : Hp) (Fv Fg' : FP) (g' : List Cell), μ <+: μ' → GRep K μ' H' Fg' g' → (∀ x, Fv x → Fg' x → False) → (∀ x, Fv x → H' x ≠ none) → Ext H Fg H' (fun x => Fv x ∨ Fg' x) →
    ∃ F', Rep K σ μ' H' F' ⟨st.loc, g'⟩ ∧ (∀ x, Fv x → F' x → False) ∧ Ext H F H' (fun x => Fv x ∨ F' x) := by
  obtain ⟨S, R, h1, h2, h3, h4, h5, h6, h7⟩ := h.ex
  refine ⟨fun x => ∃ k, R k x, ⟨⟨fun _ _ => False, R, fun i o e => by simp at e, h2, fun _ _ _ z => z.elim, h4, fun _ _ _ z => z.elim, fun _ _ z => z.elim, fun k x z => ⟨k, z⟩⟩, fun x ⟨k, z⟩ => h.live x (h7 k x z), h.mu, rfl⟩, fun μ' H' Fv Fg' g' m gr dj lv x => ?_⟩
  obtain ⟨_, R', _, g2, _, g4, _, _, g7⟩ := gr.ex
  have ap : ∀ i a, S i a → ¬ ∃ k, R k a := fun i a z ⟨k, w⟩ => h5 i k a z w
  have nw : ∀ i a, S i a → ¬ (Fv a ∨ Fg' a) := fun i a z w => by
    rcases x.new a w with q | q
    · exact h.live a (h6 i a z) q
    · exact ap i a z q
  have kp : ∀ i a, S i a → H' a = H a := fun i a z => by
    cases q : H a with
    | none => exact absurd q (h.live a (h6 i a z))
    | some u => exact x.out a u q (ap i a z)
  refine ⟨fun a => (∃ i, S i a) ∨ Fg' a, ⟨⟨S, R', fun i o e => ?_, g2, h3, g4, fun i k a z w => nw i a z (.inr (g7 k a w)), fun i a z => .inl ⟨i, z⟩, fun k a z => .inr (g7 k a z)⟩, fun a z => ?_, gr.mu, h.len⟩, fun a z w => ?_, ⟨fun a u q n => ?_, x.kp, fun a z => ?_⟩⟩
  · obtain ⟨v, q1, q2⟩ := h1 i o e
    exact ⟨v, q1, q2.step m (kp i) x.kp⟩
  · rcases z with ⟨i, z⟩ | z
    · rw [kp i a z]; exact h.live a (h6 i a z)
    · exact gr.live a z
  · rcases w with ⟨i, w⟩ | w
    · exact nw i a w (.inl z)
    · exact dj a z w
  · exact x.out a u q fun ⟨k, w⟩ => n (h7 k a w)
  · rcases z with z | ⟨i, z⟩ | z
    · exact (x.new a (.inl z)).imp id fun ⟨k, w⟩ => h7 k a w
    · exact .inr (h6 i a z)
    · exact (x.new a (.inr z)).imp id fun ⟨k, w⟩ => h7 k a w
end
/-- the module's name x is a def that does sem -/
structure Cal (P : Program) (w : World) (K : PySem.W.Frag) (mg : Str → Option Value) (base : Heap) (k : Nat) (x : Str) (ps : List Str) (sem : FSem) : Prop where
  ex : ∃ f fd, FnOk P w K mg base (L2.CX P w) k f fd ps (spOf K sem ps.length) ∧ mg x = some (.ref f) ∧ PySem.W.keepIn K (.ref f) = true ∧ Binds K fd ps []
theorem Cal.mono {P : Program} {w : World} {K : PySem.W.Frag} {mg : Str → Option Value} {base : Heap} {j k : Nat} {x : Str} {ps : List Str} {sem : FSem} (c : Cal P w K mg base j x ps sem) (h : j ≤ k) : Cal P w K mg base k x ps sem := by
  obtain ⟨f, fd, a, b⟩ := c.ex
  exact ⟨f, fd, a.mono h, b⟩
@[simp] def xCall (n : Nat) (sem : FSem) (g : St → Out (List O)) : XE := fun st => bindO (g st) fun os st => if os.length = n then match sem os st.g with
  | .ok o g' => .ok o { st with g := g' }
  | .exc c g' => .exc c { st with g := g' }
  | .no => .no
  else .no
section
variable {X : Cx} {W : WX} {a b c e : Expr} {es : List Expr} {fa fb fc f : XE} {ga : St → Out Bool} {pos p : Pos} {s : Stmt} {rest body : List Stmt} {f1 f2 : XS} {σ : L2.St} {H : Hp} {st : St} {F : FP} {μ : Mu} {x : Str} {ps : List Str} {sem : FSem} {k : Nat} {g : St → Out (List O)}
theorem se_call {n : Nat} (C : Cal X.prog X.w X.K X.mg X.base k x ps sem) (tk : Takes X W) (hr : Room k X.A) (ha : SA X W (e :: es) g) (hg : Gl X x := by rfl) (hdb : (x == ("__debug__" : Str)) = false := by decide) (he : starEach (e :: es) X.env = (false, eval e X.env) :: starEach es X.env := by rfl) (hpl : (backTo pos (starEach es X.env)).any (·.1) = false := by rfl) (hn : ps.length = n := by rfl) :
    SE X W (.Call (.Name x p) (e :: es) [] pos) (xCall n sem g) := by
  subst hn
  obtain ⟨f, fd, FN, hm, hk, hb⟩ := C.ex
  refine ⟨PE.imp (pe_callS (E := WE W) FN hr hg hm hk hb (passAt tk) ha.pa hdb he hpl) fun σ H Q ⟨st, F, μ, rep, q⟩ => ?_⟩
  refine ⟨st, F, μ, rep, Aft.bind (Fv := fun _ => False) q (List.prefix_refl _) (Ext.refl fun a z => z.elim False.elim id) fun os st1 vs H1 μ1 Fv1 F1 e1 m1 r1 rep1 d1 l1 x1 q1 => ?_⟩
  split at q1
  · rename_i hl
    obtain ⟨Fg, gr, back⟩ := rep1.call
    refine ⟨os, st1.g, Fg, μ1, hl, r1, gr, ?_⟩
    split at q1
    · rename_i o g' es
      intro v H' μ' Fv Fg' m ow gr' dj lv ex
      obtain ⟨F', rep', dj', ex'⟩ := back μ' H' Fv Fg' g' m gr' dj lv ex
      exact q1 v H' μ' Fv F' (m1.trans m) ow rep' dj' lv ((x1.imp fun _ z => .inr z : Ext H F H1 F1).trans ex')
    · rename_i o g' es
      intro H' μ' Fg' m gr' ex
      obtain ⟨F', rep', dj', ex'⟩ := back μ' H' (fun _ => False) Fg' g' m gr' (fun _ z => z.elim) (fun _ z => z.elim) (ex.imp fun a z => z.elim False.elim id)
      exact q1 H' μ' F' (m1.trans m) rep' ((x1.imp fun _ z => .inr z : Ext H F H1 F1).trans (ex'.imp fun a z => .inr z))
    · exact q1.elim
  · exact q1.elim
@[simp] def xCall0 (n : Nat) (sem : FSem) : XE := fun st => if 0 = n then match sem [] st.g with
  | .ok o g' => .ok o { st with g := g' }
  | _ => .no
  else .no
theorem se_call0 {n : Nat} (C : Cal X.prog X.w X.K X.mg X.base k x ps sem) (hr : Room k X.A) (hg : Gl X x := by rfl) (hdb : (x == ("__debug__" : Str)) = false := by decide) (hn : ps.length = n := by rfl) : SE X W (.Call (.Name x p) [] [] pos) (xCall0 n sem) := by
  subst hn
  obtain ⟨f, fd, FN, hm, hk, hb⟩ := C.ex
  refine ⟨PE.imp (pe_call0 FN hr hg hm hk hb .nil passL hdb) fun σ H Q ⟨st, F, μ, rep, q⟩ => ?_⟩
  unfold xCall0 at q
  split at q
  · rename_i hl
    obtain ⟨Fg, gr, back⟩ := rep.call
    refine ⟨[], st.g, Fg, μ, hl, .nil, gr, ?_⟩
    split at q
    · rename_i o g' es
      rw [es]
      intro v H' μ' Fv Fg' m ow gr' dj lv ex
      obtain ⟨F', rep', dj', ex'⟩ := back μ' H' Fv Fg' g' m gr' dj lv ex
      exact q v H' μ' Fv F' m ow rep' dj' lv ex'
    · exact q.elim
  · exact q.elim
/-! ### raise -/
@[simp] def sRaise (c : Str) : XS := fun st => .exc c st
theorem ss_raise {cn m : Str} {j : Nat} {p2 p3 : Pos} {B newId initId : String} {bmB : List Value} (hc : X.calm = true) (tk : Takes X W) (Fx : ExcBaseFacts B newId initId bmB) (q : PySem.W.excIn X.K (He.ga X.K cn) bmB newId = true) (gC : X.mg cn = some (.ref (He.ga X.K cn))) (kC : PySem.W.keepIn X.K (.ref (He.ga X.K cn)) = true) (r : Raises X (.ref (He.ga X.K cn)))
    (hg : Gl X cn := by rfl) (hdb : (cn == ("__debug__" : Str)) = false := by decide) : SS X W (.Raise (some (.Call (.Name cn p) [.Constant (.str m) j p2] [] p3)) none pos) (sRaise cn) :=
  ⟨PS.imp (ps_raise hc tk (pmk_own Fx q gC kC r hg hdb)) fun D σ H ⟨st, F, μ, rep, q⟩ => q σ H μ F (List.prefix_refl _) rep (Ext.refl fun _ z => z)⟩
/-! ### while -/
def sWhile : Nat → (St → Out Bool) → XS → XS
  | 0, _, _ => fun _ => .no
  | n + 1, t, b => fun st => bindO (t st) fun c st => match c with
    | true => bindO (b st) fun fl st => match fl with
      | .next => sWhile n t b st
      | .cont => sWhile n t b st
      | .brk => .ok .next st
      | .ret o => .ok (.ret o) st
    | false => .ok .next st
theorem ss_while (n : Nat) (hp : PassesOwn (model X.prog X.w) X.A X.env X.xe) (hc : ST X W c ga) (hb : SSs X W body f1) : SS X W (.While c body [] pos) (sWhile n ga f1) := by
  refine ⟨PS.imp (ps_while hp hc.pt hb.pss) fun D σ H ⟨st, F, μ, rep, q⟩ => ?_⟩
  refine ⟨fun m σ' H' => ∃ st' F' μ', Rep X.K σ' μ' H' F' st' ∧ μ <+: μ' ∧ Ext H F H' F' ∧ AftS X.K W (sWhile m ga f1 st') μ H F D, ⟨n, st, F, μ, rep, List.prefix_refl _, Ext.refl fun _ z => z, q⟩, ?_⟩
  rintro m σ1 H1 ⟨st1, F1, μ1, rep1, m1, x1, q1⟩
  cases m with
  | zero => exact q1.elim
  | succ m =>
    unfold sWhile at q1
    refine ⟨st1, F1, μ1, rep1, AftS.bind (q1.shift m1 x1) fun o st' v H' μ' Fv' F' eo m2 r rep' dj lv x2 h2 => ?_⟩
    have x3 : Ext H1 F1 H' F' := x2.imp fun a z => .inr z
    have X3 : Ext H F H' F' := x1.trans x3
    subst r
    cases v with
    | false => rw [if_neg (by simp)]; exact h2.next m2 rep' x3
    | true =>
      rw [if_pos rfl]
      rw [eo] at q1
      have q3 : AftS X.K W (bindO (f1 st') fun fl st => match fl with
        | .next => sWhile m ga f1 st
        | .cont => sWhile m ga f1 st
        | .brk => .ok .next st
        | .ret o => .ok (.ret o) st) μ H F D := q1
      refine ⟨fun σ' H' => ∃ st' F' μ', Rep X.K σ' μ' H' F' st' ∧ μ <+: μ' ∧ Ext H F H' F' ∧ AftS X.K W (sWhile m ga f1 st') μ H F D, fun σ' H' w => ⟨m, Nat.lt_succ_self m, w⟩, st', F', μ', rep', ?_⟩
      cases e : f1 st' with
      | ok fl st4 =>
        rw [e] at q3
        cases fl with
        | next => exact fun σ4 H4 μ4 F4 a b c => ⟨st4, F4, μ4, b, (m1.trans m2).trans a, X3.trans c, q3⟩
        | cont => exact fun σ4 H4 μ4 F4 a b c => ⟨st4, F4, μ4, b, (m1.trans m2).trans a, X3.trans c, q3⟩
        | brk => exact fun σ4 H4 μ4 F4 a b c => q3 σ4 H4 μ4 F4 ((m1.trans m2).trans a) b (X3.trans c)
        | ret o => exact fun v σ4 H4 μ4 Fv F4 a a2 b c d e => q3 v σ4 H4 μ4 Fv F4 ((m1.trans m2).trans a) a2 b c d (X3.trans e)
      | exc c st4 => rw [e] at q3; exact fun σ4 H4 μ4 F4 a b c => q3 σ4 H4 μ4 F4 ((m1.trans m2).trans a) b (X3.trans c)
      | no => rw [e] at q3; exact q3
/-! ### for -/
/-- a walk over data -/
def Wk (K : PySem.W.Frag) (J : It) (ds : List PyData) (H1 : Hp) : Prop := ∃ (G : Hp → Prop) (Y : Nat → Hp → V → Hp → Prop), Walk J ds.length G Y ∧ (∀ H', Kp H1 H' → G H') ∧
  ∀ i H v H', i < ds.length → Kp H1 H → Y i H v H' → (∀ p u, H p = some u → H' p = some u) ∧ ∃ d, ds[i]? = some d ∧ Rp K H' v d
def tI (K : PySem.W.Frag) (W : WX) (f : St → Out (List PyData)) : TI := fun σ H R => ∃ st F μ, Rep K σ μ H F st ∧ match f st with
  | .ok ds st' => ∀ H1 F1 μ1 J, μ <+: μ1 → Rep K σ μ1 H1 F1 st' → Ext H F H1 F1 → Wk K J ds H1 → R J H1
  | .exc c st' => ∀ H' μ' F', μ <+: μ' → Rep K σ μ' H' F' st' → Ext H F H' F' → W (.ref (He.ga K c)) none σ H'
  | .no => False
structure SI (X : Cx) (W : WX) (tg iter : Expr) (f : St → Out (List PyData)) : Prop where
  pi : PI X tg iter (tI X.K W f)
theorem PI.imp {X : Cx} {tg e : Expr} {t t' : TI} (h : PI X tg e t) (w : ∀ σ H R, t' σ H R → t σ H R) : PI X tg e t' := ⟨fun pins s σ H R I q => h.run pins s σ H R I (w σ H R q)⟩
def forM (g : XG) (b : XS) : List PyData → XS
  | [] => fun st => .ok .next st
  | d :: r => fun st => match g (.d d) st with
    | none => .no
    | some st => bindO (b st) fun fl st => match fl with
      | .next => forM g b r st
      | .cont => forM g b r st
      | .brk => .ok .next st
      | .ret o => .ok (.ret o) st
def sFor (f : St → Out (List PyData)) (g : XG) (b : XS) : XS := fun st => bindO (f st) fun ds st => forM g b ds st
theorem ss_for {tg iter : Expr} {f : St → Out (List PyData)} {gx : XG} {vs : List Nat} (hp : PassesOwn (model X.prog X.w) X.A X.env X.xe) (hc : X.calm = true) (hi : SI X W tg iter f) (hg : SG X tg vs gx) (hb : SSs X W body f1)
    (hs : ∀ x, foldedSetIterable iter X.env x = pure x := by intro _; rfl) : SS X W (.For tg iter body [] pos) (sFor f gx f1) := by
  refine ⟨PS.imp (ps_for hp hc hi.pi hg.pg hb.pss hs) fun D σ H ⟨st, F, μ, rep, q⟩ => ?_⟩
  refine ⟨st, F, μ, rep, ?_⟩
  unfold sFor at q
  cases e : f st with
  | exc c st1 => rw [e] at q; exact fun H' μ' F' a b c => q σ H' μ' F' a b c
  | no => rw [e] at q; exact q
  | ok ds st1 =>
    rw [e] at q
    have q : AftS X.K W (forM gx f1 ds st1) μ H F D := q
    intro H1 F1 μ1 J m1 rep1 x1 ⟨G, Y, wk, hG, hY⟩
    refine for_it wk (fun i σ' H' => ∃ st' F' μ', Rep X.K σ' μ' H' F' st' ∧ μ <+: μ' ∧ Ext H F H' F' ∧ Kp H1 H' ∧ AftS X.K W (forM gx f1 (ds.drop i) st') μ H F D)
      ⟨st1, F1, μ1, rep1, m1, x1, Kp.refl H1, q⟩ (fun i σ' H' _ ⟨_, _, _, _, _, _, k, _⟩ => hG H' k) ?_ ?_
    · rintro i v σ2 H2 H3 hi ⟨st2, F2, μ2, rep2, m2, x2, k2, q2⟩ hy
      obtain ⟨gr, d, hd, rd⟩ := hY i H2 v H3 hi k2 hy
      have ed : ds.drop i = d :: ds.drop (i + 1) := by
        obtain ⟨h1, h2⟩ := List.getElem?_eq_some_iff.mp hd
        rw [List.drop_eq_getElem_cons h1, h2]
      rw [ed] at q2
      unfold forM at q2
      have k3 : Kp H1 H3 := k2.trans ⟨fun a xs q => gr a _ q, fun a o u q => gr a _ q⟩
      have x3 : Ext H F H3 F2 := x2.grow gr fun a z => .inl z
      refine ⟨.d d, st2, F2, fun _ => False, μ2, .d rd, rep2.grow gr, fun _ z => z.elim, fun _ z => z.elim, ?_⟩
      cases eg : gx (.d d) st2 with
      | none => rw [eg] at q2; exact q2.elim
      | some st3 =>
        rw [eg] at q2
        intro σ4 F4 rep4 sub _
        have x4 : Ext H F H3 F4 := x3.imp fun a z => (sub a z).elim False.elim id
        refine ⟨st3, F4, μ2, rep4, ?_⟩
        cases eb : f1 st3 with
        | ok fl st5 =>
          dsimp only at q2
          rw [eb] at q2
          cases fl with
          | next => exact fun σ5 H5 μ5 F5 a b c => ⟨st5, F5, μ5, b, m2.trans a, x4.trans c, k3.trans c.kp, q2⟩
          | cont => exact fun σ5 H5 μ5 F5 a b c => ⟨st5, F5, μ5, b, m2.trans a, x4.trans c, k3.trans c.kp, q2⟩
          | brk => exact fun σ5 H5 μ5 F5 a b c => q2 σ5 H5 μ5 F5 (m2.trans a) b (x4.trans c)
          | ret o => exact fun v σ4 H4 μ4 Fv F4 a a2 b c d e => q2 v σ4 H4 μ4 Fv F4 (m2.trans a) a2 b c d (x4.trans e)
        | exc c st4 => dsimp only at q2; rw [eb] at q2; exact fun σ4 H4 μ4 F4 a b c => q2 σ4 H4 μ4 F4 (m2.trans a) b (x4.trans c)
        | no => dsimp only at q2; rw [eb] at q2; exact q2
    · rintro σ2 H2 ⟨st2, F2, μ2, rep2, m2, x2, k2, q2⟩
      rw [List.drop_length] at q2
      exact q2 σ2 H2 μ2 F2 m2 rep2 x2
/-! what is walked -/
def iSeq (f : XE) : St → Out (List PyData) := fun st => bindO (f st) fun o st => match frz o with
  | .d (.list ds) => .ok ds st
  | _ => .no
def iTup (f : XE) : St → Out (List PyData) := fun st => bindO (f st) fun o st => match o with
  | .d (.tuple ds) => .ok ds st
  | _ => .no
theorem si_core {f : XE} {k : O → St → Out (List PyData)} {t : TI} {tg : Expr} (h : PI X tg e t) (w : ∀ σ H R, tI X.K W (fun st => bindO (f st) k) σ H R → t σ H R) : SI X W tg e (fun st => bindO (f st) k) := ⟨PI.imp h w⟩
theorem walk_data {K : PySem.W.Frag} {J : It} {ds : List PyData} {H1 : Hp} {xs : List V} {G : Hp → Prop} (r : RpL K H1 xs ds) (w : Walk J xs.length G (YAt xs)) (hG : ∀ H', Kp H1 H' → G H') : Wk K J ds H1 := by
  refine ⟨G, YAt xs, by rw [← r.length]; exact w, hG, fun i H v H' hi k y => ?_⟩
  obtain ⟨rfl, hx⟩ := y
  obtain ⟨d, h1, h2⟩ := r.getV hx
  exact ⟨fun _ _ q => q, d, h1, h2.kp k _⟩
theorem si_list {tg : Expr} (h : SE X W e f) : SI X W tg e (iSeq (xFz f)) := by
  have hf := se_fz h
  refine ⟨PI.imp (pi_list hf.pe) fun σ H R ⟨st, F, μ, rep, q⟩ => ?_⟩
  refine ⟨st, F, μ, rep, ?_⟩
  unfold iSeq at q
  cases e1 : xFz f st with
  | exc c st1 => rw [e1] at q; exact q
  | no => rw [e1] at q; exact q
  | ok o st1 =>
    rw [e1] at q
    have fo := xFz_frz st o st1 e1
    intro v H' μ' Fv' F' m r rep' dj lv x
    unfold bindO at q
    dsimp only at q
    rw [fo] at q
    cases o with
    | d y =>
      cases y with
      | list ds =>
        have rr := r.rp
        cases rr with
        | lst a b =>
          refine ⟨_, rfl, ⟨_, a.sq⟩, q H' F' μ' _ m rep' (x.imp fun _ z => .inr z) (walk_data b walk_list fun H2 k => (a.kp k).sq)⟩
      | _ => exact q.elim
    | _ => exact q.elim
theorem si_tup {tg : Expr} (h : SE X W e f) : SI X W tg e (iTup f) := by
  refine ⟨PI.imp (pi_tup h.pe) fun σ H R ⟨st, F, μ, rep, q⟩ => ?_⟩
  refine ⟨st, F, μ, rep, ?_⟩
  unfold iTup at q
  cases e1 : f st with
  | exc c st1 => rw [e1] at q; exact q
  | no => rw [e1] at q; exact q
  | ok o st1 =>
    rw [e1] at q
    intro v H' μ' Fv' F' m r rep' dj lv x
    unfold bindO at q
    dsimp only at q
    cases o with
    | d y =>
      cases y with
      | tuple ds =>
        have rr := r.rp
        cases rr with
        | tup a b =>
          refine ⟨_, rfl, ⟨_, a.sq⟩, q H' F' μ' _ m rep' (x.imp fun _ z => .inr z) (walk_data b walk_tup fun H2 k => (a.kp k).sq)⟩
      | _ => exact q.elim
    | _ => exact q.elim
/-- range(a), range(a, b), range(a, b, c) -/
def rangeL (lo c : Int) (n : Nat) : List PyData := (List.range n).map fun i => .int (lo + (i : Nat) * c)
def bnd (i : Int) : Bool := decide (-1000000000 ≤ i) && decide (i ≤ 1000000000)
def iRange1 (g : St → Out (List O)) : St → Out (List PyData) := fun st => bindO (g st) fun os st => match os with
  | [.d (.int j)] => if bnd j then .ok (rangeL 0 1 j.toNat) st else .no
  | _ => .no
def iRange2 (g : St → Out (List O)) : St → Out (List PyData) := fun st => bindO (g st) fun os st => match os with
  | [.d (.int i), .d (.int j)] => if bnd i && bnd j then .ok (rangeL i 1 (j - i).toNat) st else .no
  | _ => .no
theorem walk_ints {K : PySem.W.Frag} {lo : Int} {n : Nat} {H1 : Hp} : Wk K (Itr lo n) (rangeL lo 1 n) H1 := by
  have hl : (rangeL lo 1 n).length = n := by unfold rangeL; rw [List.length_map, List.length_range]
  refine ⟨fun _ => True, YFn fun i => .int (lo + i), by rw [hl]; exact walk_range, fun _ _ => trivial, fun i H v H' hi k y => ?_⟩
  obtain ⟨rfl, rfl⟩ := y
  rw [hl] at hi
  refine ⟨fun _ _ q => q, .int (lo + i), ?_, .int _⟩
  unfold rangeL
  rw [List.getElem?_map, List.getElem?_range hi]
  simp
theorem si_range1 {tg : Expr} (hm : X.mg "range" = none) (h : SA X W [a] g) (hg : Gl X "range" := by rfl) (hs : starEach [a] X.env = [(false, eval a X.env)] := by rfl) : SI X W tg (.Call (.Name "range" p) [a] [] pos) (iRange1 g) := by
  refine ⟨PI.imp (pi_range1 hg hm h.pa hs) fun σ H R ⟨st, F, μ, rep, q⟩ => ?_⟩
  refine ⟨st, F, μ, rep, ?_⟩
  unfold iRange1 at q
  cases e1 : g st with
  | exc c st1 => rw [e1] at q; exact q
  | no => rw [e1] at q; exact q
  | ok os st1 =>
    rw [e1] at q
    intro vs H' μ' Fv' F' m r rep' dj lv x
    unfold bindO at q
    dsimp only at q
    split at q
    · rename_i ds st2 eq
      split at eq
      · rename_i j
        split at eq
        · rename_i hb
          cases eq
          cases r with
          | cons r1 r2 =>
            cases r2
            cases r1.int
            simp only [bnd, Bool.and_eq_true, decide_eq_true_eq] at hb
            exact ⟨j, rfl, by omega, by omega, q H' F' μ' _ m rep' (x.imp fun _ z => .inr z) walk_ints⟩
        · cases eq
      · cases eq
    · rename_i eq
      split at eq
      · split at eq <;> cases eq
      · cases eq
    · exact q.elim
theorem si_range2 {tg : Expr} (hm : X.mg "range" = none) (h : SA X W [a, b] g) (hg : Gl X "range" := by rfl) (hs : starEach [a, b] X.env = [(false, eval a X.env), (false, eval b X.env)] := by rfl) (hs2 : starEach [b] X.env = [(false, eval b X.env)] := by rfl) : SI X W tg (.Call (.Name "range" p) [a, b] [] pos) (iRange2 g) := by
  refine ⟨PI.imp (pi_range2 hg hm h.pa hs hs2) fun σ H R ⟨st, F, μ, rep, q⟩ => ?_⟩
  refine ⟨st, F, μ, rep, ?_⟩
  unfold iRange2 at q
  cases e1 : g st with
  | exc c st1 => rw [e1] at q; exact q
  | no => rw [e1] at q; exact q
  | ok os st1 =>
    rw [e1] at q
    intro vs H' μ' Fv' F' m r rep' dj lv x
    unfold bindO at q
    dsimp only at q
    split at q
    · rename_i ds st2 eq
      split at eq
      · rename_i i j
        split at eq
        · rename_i hb
          cases eq
          cases r with
          | cons r1 r2 =>
            cases r2 with
            | cons r2 r3 =>
              cases r3
              cases r1.int
              cases r2.int
              simp only [bnd, Bool.and_eq_true, decide_eq_true_eq] at hb
              exact ⟨i, j, rfl, ⟨by omega, by omega, by omega, by omega⟩, q H' F' μ' _ m rep' (x.imp fun _ z => .inr z) walk_ints⟩
        · cases eq
      · cases eq
    · rename_i eq
      split at eq
      · split at eq <;> cases eq
      · cases eq
    · exact q.elim
end
end Tr
namespace Tr
open PySem PySem.Spec PyProof.Rows L2

/-! ### list comprehensions -/
def wipeO : List (Option O) → List Nat → List (Option O)
  | l, [] => l
  | l, v :: vs => (wipeO l vs).set v none
/-- behind the block the names are what they were -/
def backO : List Nat → List (Option O) → List (Option O) → List (Option O)
  | [], _, l => l
  | v :: vs, old, l => (backO vs old l).set v (match old[v]? with
    | some (some (.d x)) => some (.d x)
    | some (some (.obj k)) => some (.obj k)
    | _ => none)
def noX {α : Type} (m : Out α) : Out α := match m with
  | .ok a st => .ok a st
  | _ => .no
def compM (vs : List Nat) (g : XG) (t : St → Out Bool) (f : XE) : List PyData → List PyData → St → Out (List PyData)
  | [], acc => fun st => .ok acc st
  | d :: r, acc => fun st => match g (.d d) st with
    | none => .no
    | some st => bindO (noX (t st)) fun b st => match b with
      | false => compM vs g t f r acc { st with loc := wipeO st.loc vs }
      | true => bindO (noX (f st)) fun o st => match frz o with
        | .d y => if small acc.length then compM vs g t f r (acc ++ [y]) { st with loc := wipeO st.loc vs } else .no
        | _ => .no
def xComp (vs : List Nat) (fi : St → Out (List PyData)) (g : XG) (t : St → Out Bool) (f : XE) : XE := fun st => bindO (fi st) fun ds st1 => bindO (compM vs g t f ds [] { st1 with loc := wipeO st1.loc vs }) fun acc st2 =>
  .ok (.lst acc) { st2 with loc := backO vs st1.loc st2.loc }
section
variable {K : PySem.W.Frag} {σ : L2.St} {μ μ' : Mu} {H H' : Hp} {F F' : FP} {st : St}
theorem Rep.hide (h : Rep K σ μ H F st) (i : Nat) : Rep K (σ.set i none) μ H F { st with loc := st.loc.set i none } := by
  obtain ⟨S, R, h1, h2, h3, h4, h5, h6, h7⟩ := h.ex
  refine ⟨⟨S, R, fun j o e => ?_, h2, h3, h4, h5, h6, h7⟩, h.live, h.mu, by show (st.loc.set i none).length = (σ.set i none).length; rw [List.length_set, List.length_set]; exact h.len⟩
  have e : (st.loc.set i none)[j]? = some (some o) := e
  by_cases hj : i = j
  · subst hj
    by_cases hi : i < st.loc.length
    · rw [List.getElem?_set_self hi] at e; cases e
    · rw [List.getElem?_eq_none (by rw [List.length_set]; omega)] at e; cases e
  · rw [List.getElem?_set_ne hj] at e
    rw [List.getElem?_set_ne hj]
    exact h1 j o e
theorem Rep.wipe (h : Rep K σ μ H F st) : ∀ vs : List Nat, Rep K (L2.wipe σ vs) μ H F { st with loc := wipeO st.loc vs }
  | [] => h
  | v :: vs => (Rep.wipe h vs).hide v
theorem wipe_at {i : Nat} : ∀ {vs : List Nat} {σ : L2.St} {x : V}, σ[i]? = some (some x) → i ∉ vs → (L2.wipe σ vs)[i]? = some (some x)
  | [], _, _, h, _ => h
  | v :: vs, σ, x, h, n => by
    unfold L2.wipe
    rw [List.getElem?_set_ne (fun e => n (by rw [e]; exact List.mem_cons_self))]
    exact wipe_at h fun z => n (List.mem_cons_of_mem _ z)
theorem wipe_sub {ws : List Nat} : ∀ (vs : List Nat) (σ : L2.St), (∀ v ∈ vs, v ∈ ws) → L2.wipe (L2.wipe σ vs) ws = L2.wipe σ ws
  | [], _, _ => rfl
  | v :: vs, σ, h => by
    rw [show L2.wipe σ (v :: vs) = (L2.wipe σ vs).set v none from rfl, wipe_set (h v List.mem_cons_self)]
    exact wipe_sub vs σ fun w hw => h w (List.mem_cons_of_mem _ hw)
theorem wipe_wipe (vs : List Nat) (σ : L2.St) : L2.wipe (L2.wipe σ vs) vs = L2.wipe σ vs := wipe_sub vs σ fun _ h => h
theorem Kp.put {H : Hp} {a : Addr} {xs ys : List V} (h : H a = some (.lst xs)) : Kp H (upd H a (.lst ys)) :=
  ⟨fun b zs q => by rw [upd_ne (ne_of q h (by intro z; cases z))]; exact q, fun b o' u q => by rw [upd_ne (ne_of q h (by intro z; cases z))]; exact q⟩
theorem wipeO_length : ∀ {vs : List Nat} {l : List (Option O)}, (wipeO l vs).length = l.length
  | [], _ => rfl
  | v :: vs, l => by unfold wipeO; rw [List.length_set, wipeO_length]
theorem backO_length : ∀ {vs : List Nat} {old l : List (Option O)}, (backO vs old l).length = l.length
  | [], _, _ => rfl
  | v :: vs, old, l => by unfold backO; rw [List.length_set, backO_length]
def keptO : O → Bool
  | .d _ => true
  | .obj _ => true
  | _ => false
theorem backO_at {old l : List (Option O)} {i : Nat} {o : O} : ∀ {vs : List Nat}, (backO vs old l)[i]? = some (some o) → (i ∉ vs ∧ l[i]? = some (some o)) ∨ (old[i]? = some (some o) ∧ keptO o = true)
  | [], e => .inl ⟨by simp, e⟩
  | v :: vs, e => by
    unfold backO at e
    by_cases hv : v = i
    · subst hv
      by_cases hi : v < (backO vs old l).length
      · rw [List.getElem?_set_self hi] at e
        split at e
        · rename_i x ex; cases e; exact .inr ⟨ex, rfl⟩
        · rename_i x ex; cases e; exact .inr ⟨ex, rfl⟩
        · cases e
      · rw [List.getElem?_eq_none (by rw [List.length_set]; omega)] at e; cases e
    · rw [List.getElem?_set_ne hv] at e
      rcases backO_at e with ⟨h1, h2⟩ | h
      · exact .inl ⟨fun z => (List.mem_cons.mp z).elim (fun q => hv q.symm) h1, h2⟩
      · exact .inr h
/-- back in the def's own state -/
theorem Rep.back {st1 st2 : St} {vs : List Nat} {H1 : Hp} {μ1 : Mu} {F1 : FP} (h1 : Rep K σ μ1 H1 F1 st1) (h2 : Rep K (L2.wipe σ vs) μ H F st2) (m : μ1 <+: μ) (k : Kp H1 H) : Rep K σ μ H F { st2 with loc := backO vs st1.loc st2.loc } := by
  obtain ⟨S, R, a1, a2, a3, a4, a5, a6, a7⟩ := h2.ex
  obtain ⟨S1, R1, b1, _⟩ := h1.ex
  have hl : σ.length = st2.loc.length := by rw [h2.len, wipe_length]
  refine ⟨⟨S, R, fun i o e => ?_, a2, a3, a4, a5, a6, a7⟩, h2.live, h2.mu, ?_⟩
  · rcases backO_at e with ⟨n, e⟩ | ⟨e, fr⟩
    · obtain ⟨v, q1, q2⟩ := a1 i o e
      exact ⟨v, (wipe_some q1).1, q2⟩
    · obtain ⟨v, q1, q2⟩ := b1 i o e
      refine ⟨v, q1, ?_⟩
      cases q2 with
      | d r => exact .d (r.kp k)
      | obj r =>
        refine .obj ?_
        obtain ⟨t, rfl⟩ := m
        rw [List.getElem?_append_left (List.getElem?_eq_some_iff.mp r).1]
        exact r
      | xcp _ _ _ => cases fr
      | tl _ _ _ _ _ _ _ _ => cases fr
      | dct _ _ _ _ => cases fr
      | dcl _ _ _ _ => cases fr
      | lst _ _ _ => cases fr
  · show (backO vs st1.loc st2.loc).length = _
    rw [backO_length, hl]
end
/-- no exception leaves a block -/
abbrev W0 : WX := fun _ _ _ _ => False
structure STs (X : Cx) (W : WX) (ifs : List Expr) (t : St → Out Bool) : Prop where
  pts : PTs X ifs (tT X.K W t)
theorem PTs.imp {X : Cx} {e : List Expr} {t t' : TT} (h : PTs X e t) (w : ∀ σ H Q, t' σ H Q → t σ H Q) : PTs X e t' := ⟨fun pins s σ H Q I q => h.run pins s σ H Q I (w σ H Q q)⟩
def tYesO : St → Out Bool := fun st => .ok true st
theorem sts_nil {X : Cx} {W : WX} : STs X W [] tYesO := ⟨PTs.imp pts_nil fun σ H Q ⟨st, F, μ, rep, q⟩ => q true H μ (fun _ => False) F (List.prefix_refl _) rfl rep (fun _ z => z.elim) (fun _ z => z.elim) (Ext.refl fun a z => z.elim False.elim id)⟩
theorem sts_one {X : Cx} {W : WX} {c : Expr} {t : St → Out Bool} (h : ST X W c t) : STs X W [c] t := ⟨pts_one h.pt⟩
section
variable {X : Cx} {W : WX} {a b c e elt tg iter : Expr} {es ifs : List Expr} {fa fb fc f : XE} {ga : St → Out Bool} {pos p : Pos} {σ : L2.St} {H : Hp} {st : St} {F : FP} {μ : Mu} {scope : Scope} {own : List (Str × Nat)} {fi : St → Out (List PyData)} {gx : XG} {tx : St → Out Bool} {fe : XE}
theorem lc_tree (hi : SI X W tg iter fi) {Q : V → Hp → Prop} (rep : Rep X.K σ μ H F st) (q : Aft X.K W σ (fun μ H Fv (v : V) o => Own X.K μ H Fv v o) (xComp (own.map (·.2)) fi gx tx fe st) μ H F Q) :
    tLc (tI X.K W fi) (tG X.K (own.map (·.2)) gx) (tT X.K W0 tx) (tE X.K W0 (xFz fe)) (own.map (·.2)) σ H Q := by
  generalize own.map (·.2) = vs at q ⊢
  refine ⟨st, F, μ, rep, ?_⟩
  unfold xComp at q
  cases e : fi st with
  | exc c st1 => rw [e] at q; exact q
  | no => rw [e] at q; exact q
  | ok ds st1 =>
    rw [e] at q
    have q : Aft X.K W σ (fun μ H Fv (v : V) o => Own X.K μ H Fv v o) (bindO (compM vs gx tx fe ds [] { st1 with loc := wipeO st1.loc vs }) fun acc st2 => .ok (.lst acc) { st2 with loc := backO vs st1.loc st2.loc }) μ H F Q := q
    intro H1 F1 μ1 J m1 rep1 x1 ⟨G, Y, wk, hG, hY⟩ D hD
    have nD : ∀ a u, H1 a = some u → (upd H1 D (.lst [])) a = some u := fun a u z => by rw [upd_ne (ne_of_none z hD)]; exact z
    -- what stands ahead of turn i
    refine lc_it wk (fun i H' => ∃ st' F' μ' acc xs, Rep X.K (wipe σ vs) μ' H' F' st' ∧ μ1 <+: μ' ∧ Ext H F H' (fun a => a = D ∨ F' a) ∧ Kp H1 H' ∧ H' D = some (.lst xs) ∧ ¬ F' D ∧ RpL X.K H' xs acc ∧
      Aft X.K W σ (fun μ H Fv (v : V) o => Own X.K μ H Fv v o) (bindO (compM vs gx tx fe (ds.drop i) acc st') fun acc st2 => .ok (.lst acc) { st2 with loc := backO vs st1.loc st2.loc }) μ H F Q) ?_ (fun i H' _ ⟨_, _, _, _, _, _, _, _, k, _⟩ => hG H' k) ?_ ?_
    · refine ⟨_, F1, μ1, [], [], (rep1.wipe vs).grow nD, List.prefix_refl _, x1.grow nD fun a z => ?_, ⟨fun a xs q => nD a _ q, fun a o u q => nD a _ q⟩, upd_same, fun z => rep1.live D z hD, .nil, q⟩
      rcases z with z | z
      · subst z; exact .inr hD
      · exact .inl z
    · rintro i v H2 H3 hi ⟨st2, F2, μ2, acc, xs, rep2, m2, x2, k2, hL, nF, rl, q2⟩ hy
      obtain ⟨gr, d, hd, rd⟩ := hY i H2 v H3 hi k2 hy
      have ed : ds.drop i = d :: ds.drop (i + 1) := by
        obtain ⟨h1, h2⟩ := List.getElem?_eq_some_iff.mp hd
        rw [List.drop_eq_getElem_cons h1, h2]
      rw [ed] at q2
      unfold compM at q2
      have kg : Kp H2 H3 := ⟨fun a xs q => gr a _ q, fun a o u q => gr a _ q⟩
      have k3 : Kp H1 H3 := k2.trans kg
      have x3 : Ext H F H3 (fun a => a = D ∨ F2 a) := x2.grow gr fun a z => .inl z
      refine ⟨.d d, st2, F2, fun _ => False, μ2, .d rd, rep2.grow gr, fun _ z => z.elim, fun _ z => z.elim, ?_⟩
      cases eg : gx (.d d) st2 with
      | none => rw [eg] at q2; exact q2.elim
      | some st3 =>
        rw [eg] at q2
        intro σ4 F4 rep4 sub wp
        have wp' : wipe σ4 vs = wipe σ vs := by rw [wp]; exact wipe_wipe vs σ
        refine ⟨wp', st3, F4, μ2, rep4, ?_⟩
        have x4 : Ext H F H3 (fun a => a = D ∨ F4 a) := x3.imp fun a z => z.imp id fun w => (sub a w).elim False.elim id
        have n4 : ¬ F4 D := fun z => nF ((sub D z).elim False.elim id)
        have l3 : H3 D = some (.lst xs) := gr D _ hL
        -- a step that leaves D alone
        have side : ∀ {H5 : Hp} {Fv5 F5 : FP}, Ext H3 F4 H5 (fun a => Fv5 a ∨ F5 a) → H5 D = some (.lst xs) ∧ ¬ Fv5 D ∧ ¬ F5 D ∧ Ext H F H5 (fun a => a = D ∨ (Fv5 a ∨ F5 a)) := fun {H5 Fv5 F5} x5 => by
          have nn : ∀ a, (Fv5 a ∨ F5 a) → a ≠ D := fun a z w => by
            subst w
            rcases x5.new a z with q | q
            · rw [l3] at q; cases q
            · exact n4 q
          exact ⟨x5.out D _ l3 n4, fun z => nn D (.inl z) rfl, fun z => nn D (.inr z) rfl, x4.trans (x5.frame (G := fun a => a = D))⟩
        cases et : tx st3 with
        | exc c st5 =>
          dsimp only at q2
          rw [et] at q2
          exact q2.elim
        | no => dsimp only at q2; rw [et] at q2; exact q2.elim
        | ok bb st5 =>
          dsimp only at q2
          rw [et] at q2
          intro b5 H5 μ5 Fv5 F5 m5 r5 rep5 dj5 lv5 x5
          subst r5
          obtain ⟨s1, s2, s3, s4⟩ := side x5
          have k5 : Kp H3 H5 := x5.kp
          cases b5 with
          | false =>
            rw [if_neg (by simp)]
            refine ⟨_, F5, μ5, acc, xs, wp' ▸ rep5.wipe vs, m2.trans m5, s4.imp fun a z => z.imp id .inr, k3.trans k5, s1, s3, RpL.kp (kg.trans k5) _ rl, q2⟩
          | true =>
            rw [if_pos rfl]
            refine ⟨st5, F5, μ5, rep5, ?_⟩
            have q3 : Aft X.K W σ (fun μ H Fv (v : V) o => Own X.K μ H Fv v o) (bindO (bindO (noX (fe st5)) fun o st => match frz o with
              | .d y => if small acc.length then compM vs gx tx fe (ds.drop (i + 1)) (acc ++ [y]) { st with loc := wipeO st.loc vs } else .no
              | _ => .no) fun acc st2 => .ok (.lst acc) { st2 with loc := backO vs st1.loc st2.loc }) μ H F Q := q2
            unfold xFz
            cases ef : fe st5 with
            | exc c st6 => rw [ef] at q3; exact q3.elim
            | no => rw [ef] at q3; exact q3.elim
            | ok o st6 =>
              rw [ef] at q3
              intro v6 H6 μ6 Fv6 F6 m6 r6 rep6 dj6 lv6 x6
              have q3 : Aft X.K W σ (fun μ H Fv (v : V) o => Own X.K μ H Fv v o) (bindO (match frz o with
                | .d y => if small acc.length then compM vs gx tx fe (ds.drop (i + 1)) (acc ++ [y]) { st6 with loc := wipeO st6.loc vs } else .no
                | _ => .no) fun acc st2 => .ok (.lst acc) { st2 with loc := backO vs st1.loc st2.loc }) μ H F Q := q3
              cases eo : frz o with
              | lst _ => rw [eo] at q3; exact q3.elim
              | obj _ => rw [eo] at q3; exact q3.elim
              | xcp _ => rw [eo] at q3; exact q3.elim
              | tl _ _ => rw [eo] at q3; exact q3.elim
              | dct _ => rw [eo] at q3; exact q3.elim
              | dcl _ => rw [eo] at q3; exact q3.elim
              | d y =>
                rw [eo] at q3 r6
                have x56 : Ext H3 F4 H6 (fun a => Fv6 a ∨ F6 a) := (x5.imp fun a z => .inr z : Ext H3 F4 H5 F5).trans x6
                obtain ⟨t1, t2, t3, t4⟩ := side x56
                dsimp only at q3
                by_cases hs : small acc.length = true
                · rw [if_pos hs] at q3
                  have rl6 := RpL.kp (kg.trans x56.kp) _ rl
                  refine ⟨xs, t1, by rw [rl6.length]; exact small_lt hs, _, F6, μ6, acc ++ [y], xs ++ [v6], (Rep.step (wp' ▸ rep6.wipe vs) (fun a z => upd_ne fun w => t3 (w ▸ z)) (Kp.put t1)), (m2.trans m5).trans m6, ?_, ((k3.trans x56.kp).trans (Kp.put t1)), upd_same, t3, ?_, q3⟩
                  · refine (t4.imp (F2 := fun a => a = D ∨ F6 a) fun a z => z.imp id .inr).trans ⟨fun a u z n => ?_, Kp.put t1, fun a z => .inr z⟩
                    rw [upd_ne fun w => n (.inl w)]; exact z
                  · exact (RpL.kp (Kp.put t1) _ rl6).append (.cons (r6.rp.kp (Kp.put t1)) .nil)
                · rw [if_neg hs] at q3; exact q3.elim
    · rintro H2 ⟨st2, F2, μ2, acc, xs, rep2, m2, x2, k2, hL, nF, rl, q2⟩
      rw [List.drop_length] at q2
      exact q2 _ H2 μ2 (fun a => a = D) F2 (m1.trans m2) (.lst hL rl rfl) (rep1.back rep2 m2 k2) (fun a z w => nF (z ▸ w)) (fun a z => by rw [z, hL]; simp) x2
theorem se_lc {vs : List Nat} (hc : X.calm = true) (hN : X.N.Nodup) (hi : SI X W tg iter fi) (ok : BlkOk X.N X.env.scope scope own)
    (hg : ∀ (s : Shared) (H : Hp) (C : Addr) (cl : List (Str × Addr)) (fp : List Addr), SG (X.blk s H scope (compEnvC scope cl C X.env) fp) tg vs gx) (ht : ∀ (s : Shared) (H : Hp) (C : Addr) (cl : List (Str × Addr)) (fp : List Addr), STs (X.blk s H scope (compEnvC scope cl C X.env) fp) W0 ifs tx)
    (he : ∀ (s : Shared) (H : Hp) (C : Addr) (cl : List (Str × Addr)) (fp : List Addr), SE (X.blk s H scope (compEnvC scope cl C X.env) fp) W0 elt fe) (hv : own.map (·.2) = vs := by rfl) (hs : ∀ x, foldedSetIterable iter X.env x = pure x := by intro _; rfl) :
    SE X W (.ListComp elt [⟨tg, iter, ifs, 0⟩] scope pos) (xComp vs fi gx tx fe) := by
  subst hv
  exact ⟨PE.imp (pe_lc (g := tG X.K (own.map (·.2)) gx) (tt := tT X.K W0 tx) (te := tE X.K W0 (xFz fe)) hc hN hi.pi ok (fun s H C cl fp => (hg s H C cl fp).pg) (fun s H C cl fp => (ht s H C cl fp).pts) (fun s H C cl fp => (se_fz (he s H C cl fp)).pe) hs) fun σ H Q ⟨st, F, μ, rep, q⟩ => lc_tree hi rep q⟩
theorem ss_setLc {vs : List Nat} (i : Nat) {y : Str} {py spos : Pos} (hc : X.calm = true) (hN : X.N.Nodup) (hy : X.N[i]? = some y) (hyl : X.env.scope.names.lookup y = some .local)
    (hsw : swapsWith (.ListComp elt [⟨tg, iter, ifs, 0⟩] scope pos) (some (.Name y py)) spos.line X.env = pure true) (hi : SI X W tg iter fi) (ok : BlkOk X.N X.env.scope scope own)
    (hg : ∀ (s : Shared) (H : Hp) (C : Addr) (cl : List (Str × Addr)) (fp : List Addr), SG (X.blk s H scope (compEnvC scope cl C X.env) fp) tg vs gx) (ht : ∀ (s : Shared) (H : Hp) (C : Addr) (cl : List (Str × Addr)) (fp : List Addr), STs (X.blk s H scope (compEnvC scope cl C X.env) fp) W0 ifs tx)
    (he : ∀ (s : Shared) (H : Hp) (C : Addr) (cl : List (Str × Addr)) (fp : List Addr), SE (X.blk s H scope (compEnvC scope cl C X.env) fp) W0 elt fe) (hv : own.map (·.2) = vs := by rfl) (hs : ∀ x, foldedSetIterable iter X.env x = pure x := by intro _; rfl) :
    SS X W (.Assign [.Name y py] (.ListComp elt [⟨tg, iter, ifs, 0⟩] scope pos) spos) (sAsg (xComp vs fi gx tx fe) (gN i)) := by
  subst hv
  refine ⟨PS.imp (ps_setLc (g := tG X.K (own.map (·.2)) gx) (tt := tT X.K W0 tx) (te := tE X.K W0 (xFz fe)) hc hN hy hyl hsw hi.pi ok (fun s H C cl fp => (hg s H C cl fp).pg) (fun s H C cl fp => (ht s H C cl fp).pts) (fun s H C cl fp => (se_fz (he s H C cl fp)).pe) hs) fun D σ H ⟨st, F, μ, rep, q⟩ => ?_⟩
  have key := AftS.bind (σ := σ) (R := fun μ H Fv (v : V) o => Own X.K μ H Fv v o) (Q1 := fun v H1 => gName i v σ H1 D.nx) q fun o st' v H' μ' Fv' F' eo m r rep' dj lv x h2 => by
    unfold gN at h2
    split at h2
    · rename_i st2 e2
      split at e2
      · rename_i hi
        cases e2
        exact h2.next m (rep'.put hi r dj lv (fun _ _ => rfl) (Kp.refl H')) x
      · cases e2
    · exact h2.elim
  exact lc_tree hi rep key
end
end Tr
namespace Tr
open PySem PySem.Spec PyProof.Rows L2
section
variable {K : PySem.W.Frag} {σ : L2.St} {μ μ' : Mu} {H H' : Hp} {F F' : FP} {st : St}
/-- the list of a slot is changed -/
theorem Rep.chg (h : Rep K σ μ H F st) {i : Nat} {ds : List PyData} (e : st.loc[i]? = some (some (.lst ds))) :
    ∃ a xs, σ[i]? = some (some (.ref a)) ∧ H a = some (.lst xs) ∧ RpL K H xs ds ∧ F a ∧ ∀ (es : List PyData) (ys : List V), RpL K H ys es → Kp H (upd H a (.lst ys)) ∧ Rep K σ μ (upd H a (.lst ys)) F { st with loc := st.loc.set i (some (.lst es)) } ∧ Ext H F (upd H a (.lst ys)) F := by
  obtain ⟨S, R, h1, h2, h3, h4, h5, h6, h7⟩ := h.ex
  obtain ⟨v, q1, q2⟩ := h1 i _ e
  cases q2 with
  | @lst a xs _ ha hr hs =>
    refine ⟨a, xs, q1, ha, hr, h6 i a hs, fun es ys rl => ?_⟩
    have k := Kp.put (ys := ys) ha
    have ou : ∀ b, b ≠ a → (upd H a (.lst ys)) b = H b := fun b nb => upd_ne nb
    refine ⟨k, ⟨⟨S, R, fun j o' e' => ?_, fun k' c e' => ?_, h3, h4, h5, h6, h7⟩, fun b z => ?_, h.mu, ?_⟩, ⟨fun b u q n => ?_, k, fun b z => .inr z⟩⟩
    · by_cases hj : i = j
      · subst hj
        have hi := (List.getElem?_eq_some_iff.mp e).1
        have e2 : (st.loc.set i (some (.lst es)))[i]? = some (some o') := e'
        rw [List.getElem?_set_self hi] at e2
        cases e2
        exact ⟨_, q1, .lst upd_same (RpL.kp k _ rl) hs⟩
      · have e2 : (st.loc.set i (some (.lst es)))[j]? = some (some o') := e'
        rw [List.getElem?_set_ne hj] at e2
        obtain ⟨w, r1, r2⟩ := h1 j o' e2
        have na : ¬ S j a := fun z => hj (h3 i j a hs z)
        exact ⟨w, r1, r2.step (List.prefix_refl _) (fun b z => ou b fun w' => na (w' ▸ z)) k⟩
    · obtain ⟨w, r1, r2⟩ := h2 k' c e'
      exact ⟨w, r1, r2.step (List.prefix_refl _) (fun b z => ou b fun w' => h5 i k' a hs (w' ▸ z)) k⟩
    · by_cases nb : b = a
      · subst nb; rw [upd_same]; simp
      · rw [ou b nb]; exact h.live b z
    · show (st.loc.set i _).length = _
      rw [List.length_set]; exact h.len
    · rw [ou b fun w' => n (w' ▸ h6 i a hs)]; exact q
end
section
variable {X : Cx} {W : WX} {a b c e ie : Expr} {es : List Expr} {fa fb fc f fi : XE} {ga : St → Out Bool} {pos p apos : Pos} {s : Stmt} {rest body : List Stmt} {f1 f2 : XS} {σ : L2.St} {H : Hp} {st : St} {F : FP} {μ : Mu} {x : Str} {g : St → Out (List O)}
/-! ### methods that change a slot's list, as statements -/
@[simp] def isL : Option (Option O) → Bool
  | some (some (.lst _)) => true
  | _ => false
theorem isL_ok (rep : Rep X.K σ μ H F st) {i : Nat} (h : isL st.loc[i]? = true) : ∃ v, σ[i]? = some (some v) ∧ tyV X.K "list" v H := by
  cases e : st.loc[i]? with
  | none => rw [e] at h; cases h
  | some o =>
    cases o with
    | none => rw [e] at h; cases h
    | some o =>
      rw [e] at h
      obtain ⟨v, h1, h2⟩ := rep.slot e
      cases h2 with
      | d _ => cases h
      | obj _ => cases h
      | xcp _ _ _ => cases h
      | tl _ _ _ _ _ _ _ _ => cases h
      | dct _ _ _ _ => cases h
      | dcl _ _ _ _ => cases h
      | lst ha hr hf => exact ⟨_, h1, .inl ⟨rfl, _, SqL.of ha⟩⟩
@[simp] def appAt (i : Nat) (os : List O) (st : St) : Option St := match os with
  | [.d y] => match st.loc[i]? with
    | some (some (.lst xs)) => if small xs.length then some { st with loc := st.loc.set i (some (.lst (xs ++ [y]))) } else none
    | _ => none
  | _ => none
theorem appAt_some {i : Nat} {os : List O} {st st' : St} (h : appAt i os st = some st') : ∃ y xs, os = [.d y] ∧ st.loc[i]? = some (some (.lst xs)) ∧ small xs.length = true ∧ st' = { st with loc := st.loc.set i (some (.lst (xs ++ [y]))) } := by
  unfold appAt at h
  split at h
  · split at h
    · split at h
      · cases h; exact ⟨_, _, rfl, by assumption, by assumption, rfl⟩
      · cases h
    · cases h
  · cases h
@[simp] def endO (o : Option St) : Out Fl := match o with
  | some st => .ok .next st
  | none => .no
@[simp] def sApp (i : Nat) (g : St → Out (List O)) : XS := fun st => if isL st.loc[i]? then bindO (g st) fun os st => endO (appAt i os st) else .no
theorem ss_append (i : Nat) (ho : PE X a (tVar i)) (h : SE X W e f) (hs : swapsWith (.Call (.Attribute a "append" apos) [e] [] p) none pos.line X.env = pure false := by rfl)
    (hbase : attributeBase a "append" X.env (eval a X.env) = eval a X.env := by rfl)
    (hfew : ((backTo p (starEach [e] X.env)).all (fun x => !x.1) && (backToKw p (keywordEach [] X.env)).all (fun x => x.1.isSome)
      && decide ([e].length + ([] : List Keyword).length + (if ([] : List Keyword).isEmpty then 0 else 1) < 30)) = true := by rfl)
    (hline : (apos.endLine == p.line) = true := by rfl) (hs1 : starEach [e] X.env = (false, eval e X.env) :: starEach [] X.env := by rfl) (hplain : (backTo p (starEach [] X.env)).any (·.1) = false := by rfl) :
    SS X W (.Expr (.Call (.Attribute a "append" apos) [e] [] p) pos) (sApp i (aCons f aNil)) := by
  refine ⟨PS.imp (ps_expr (pe_bm PySem.F.plainAttrs_list PySem.F.slot_list_append PySem.F.type_list_append mt_append ho (sa_cons h sa_nil hs1).pa hbase hfew hline hs1 hplain) hs) fun D σ H ⟨st, F, μ, rep, q⟩ => ?_⟩
  unfold sApp at q
  split at q
  · rename_i hl
    obtain ⟨v, h1, ty⟩ := isL_ok rep hl
    refine ⟨v, h1, ty, st, F, μ, rep, AftS.bind q fun os st' vs H' μ' Fv' F' eo m r rep' dj lv x h2 => ?_⟩
    cases ea : appAt i os st' with
    | none => rw [ea] at h2; exact h2.elim
    | some st2 =>
      rw [ea] at h2
      obtain ⟨y, ds, rfl, el, hsm, rfl⟩ := appAt_some ea
      cases r with
      | cons r1 r2 =>
        cases r2
        obtain ⟨a', xs, g1, g2, g3, g4, g5⟩ := rep'.chg el
        obtain ⟨k, g6, g7⟩ := g5 _ _ (g3.append (.cons r1.rp .nil))
        rw [h1] at g1; cases g1
        exact ⟨_, xs, _, rfl, rfl, g2, by rw [g3.length]; exact small_lt hsm, h2 σ _ μ' F' m g6 ((x.imp fun a z => .inr z : Ext H F H' F').trans g7)⟩
  · exact q.elim
/-- x[i] = e of a slot's list -/
@[simp] def setAt (n : Nat) (o i : O) (st : St) : Option St := match frz o, i with
  | .d y, .d (.int k) => match st.loc[n]? with
    | some (some (.lst xs)) => match ixN xs.length k with
      | some j => some { st with loc := st.loc.set n (some (.lst (xs.set j y))) }
      | none => none
    | _ => none
  | _, _ => none
@[simp] def sSetL (n : Nat) (f fi : XE) : XS := fun st => bindO (xFz f st) fun o st => if isL st.loc[n]? then bindO (fi st) fun i st => endO (setAt n o i st) else .no
theorem ss_setitem (n : Nat) (h : SE X W e f) (ho : PE X a (tVar n)) (hi : SE X W ie fi) {tp : Pos} (hs : swapsWithSole [.Subscript a ie tp] e pos.line X.env = pure false := by rfl) (hw : swappedStores [.Subscript a ie tp] e X.env = pure none := by rfl)
    (h1 : (assignEach [.Subscript a ie tp] X.env).map (·.2) = [assign (.Subscript a ie tp) X.env] := by rfl)
    (ha : ∀ v, assign (.Subscript a ie tp) X.env v = (do
      let ov ← holding [v] (eval a X.env)
      let iv ← holding [v, ov] (eval ie X.env)
      standAt tp
      holding [v, ov, iv] (setItem ov iv v)
      release [v, ov, iv] []) := by intro _; rfl) :
    SS X W (.Assign [.Subscript a ie tp] e pos) (sSetL n f fi) := by
  refine ⟨PS.imp (ps_asg (se_fz h).pe (pg_sub ho hi.pe set_list ha) hs hw h1) fun D σ H ⟨st, F, μ, rep, q⟩ => ?_⟩
  refine ⟨st, F, μ, rep, AftS.bind q fun o st1 v H1 μ1 Fv1 F1 eo m1 r1 rep1 dj1 lv1 x1 h2 => ?_⟩
  split at h2
  · rename_i hl
    have X1 : Ext H F H1 F1 := x1.imp fun a z => .inr z
    obtain ⟨ov, g1, _⟩ := isL_ok rep1 hl
    refine ⟨ov, g1, st1, F1, μ1, rep1, AftS.bind2 (Fv := fun _ => False) h2 m1 (X1.imp fun a z => z.elim False.elim id) fun iv st2 iw H2 μ2 Fv2 F2 e2 m2 r2 rep2 dj2 lv2 x2 h3 => ?_⟩
    have fo := xFz_frz _ _ _ eo
    cases es : setAt n o iv st2 with
    | none => rw [es] at h3; exact h3.elim
    | some st3 =>
      rw [es] at h3
      unfold setAt at es
      rw [fo] at es
      split at es
      · rename_i y k
        split at es
        · rename_i ds el
          split at es
          · rename_i j ej
            cases es
            cases r2.int
            obtain ⟨a', xs, c1, c2, c3, c4, c5⟩ := rep2.chg el
            obtain ⟨kp, c6, c7⟩ := c5 _ _ (c3.set j (r1.rp.kp x2.kp))
            rw [g1] at c1; cases c1
            exact ⟨a', xs, k, j, rfl, rfl, c2, by rw [c3.length]; exact ej, h3 σ _ μ2 F2 (m1.trans m2) c6 ((X1.trans (x2.imp fun a z => .inr z)).trans c7)⟩
          · cases es
        · cases es
      · cases es
  · exact h2.elim
/-! ### x += e -/
@[simp] def augAt (i : Nat) (o : O) (st : St) : Option St := match st.loc[i]?, o with
  | some (some (.d (.int a))), .d (.int b) => some { st with loc := st.loc.set i (some (.d (.int (a + b)))) }
  | some (some (.lst xs)), .lst ys => if small (xs.length + ys.length) then some { st with loc := st.loc.set i (some (.lst (xs ++ ys))) } else none
  | _, _ => none
@[simp] def isV : Option (Option O) → Bool
  | some (some _) => true
  | _ => false
@[simp] def sAug (i : Nat) (f : XE) : XS := fun st => if isV st.loc[i]? then bindO (f st) fun o st => endO (augAt i o st) else .no
theorem isV_ok (rep : Rep X.K σ μ H F st) {i : Nat} (h : isV st.loc[i]? = true) : ∃ v, σ[i]? = some (some v) := by
  cases e : st.loc[i]? with
  | none => rw [e] at h; cases h
  | some o =>
    cases o with
    | none => rw [e] at h; cases h
    | some o => obtain ⟨v, h1, h2⟩ := rep.slot e; exact ⟨v, h1⟩
abbrev rAugX : R2 := fun x y H Q => (rI0 fun i j => .int (i + j)) x y H Q ∨ rExt2 x y H Q
theorem ss_aug (i : Nat) {pos' : Pos} (hN : X.N.Nodup) (hi : X.N[i]? = some x) (hx : Loc X.env.scope x) (h : SE X W e f) (hf : X.fn x = true ∨ X.env.scope.names.lookup x = some .local := by first | exact .inl rfl | exact .inr rfl | assumption) : SS X W (.AugAssign (.Name x pos') .Add e pos) (sAug i f) := by
  refine ⟨PS.imp (ps_aug (ti := rAugX) hN hi hx h.pe (iop_add.or iop_ext) hf) fun D σ H ⟨st, F, μ, rep, q⟩ => ?_⟩
  unfold sAug at q
  split at q
  · rename_i hv
    obtain ⟨v, g1⟩ := isV_ok rep hv
    refine ⟨v, g1, st, F, μ, rep, AftS.bind q fun o st1 w H1 μ1 Fv1 F1 eo m1 r1 rep1 dj1 lv1 x1 h2 => ?_⟩
    have X1 : Ext H F H1 F1 := x1.imp fun a z => .inr z
    cases ea : augAt i o st1 with
    | none => rw [ea] at h2; exact h2.elim
    | some st2 =>
      rw [ea] at h2
      unfold augAt at ea
      split at ea
      · rename_i A B el
        cases ea
        obtain ⟨u, u1, u2⟩ := rep1.slot el
        rw [g1] at u1; cases u1
        cases u2.int; cases r1.int
        have hlt := (List.getElem?_eq_some_iff.mp el).1
        have rp := rep1.put (i := i) (o := .d (.int (A + B))) (v := .int (A + B)) (Fv := fun _ => False) hlt (.d (.int _)) (fun _ z => z.elim) (fun _ z => z.elim) (fun _ _ => rfl) (Kp.refl H1)
        exact .inl ⟨A, B, rfl, rfl, h2 _ H1 μ1 _ m1 rp (X1.imp fun a z => z.elim False.elim id)⟩
      · rename_i xs ys el
        split at ea
        · rename_i hs
          cases ea
          cases r1 with
          | @lst b zs _ hb hr hfb =>
            obtain ⟨a', us, c1, c2, c3, c4, c5⟩ := rep1.chg el
            obtain ⟨kp, c6, c7⟩ := c5 _ _ (c3.append hr)
            rw [g1] at c1; cases c1
            refine .inr ⟨a', b, us, zs, rfl, rfl, c2, hb, by rw [c3.length, hr.length]; exact small_line hs, ?_⟩
            have es : σ.set i (some (.ref a')) = σ := by
              obtain ⟨hlt, ee⟩ := List.getElem?_eq_some_iff.mp g1
              rw [← ee]; exact List.set_getElem_self hlt
            show D.nx (σ.set i (some (.ref a'))) _
            rw [es]
            exact h2 σ _ μ1 F1 m1 c6 (X1.trans c7)
        · cases ea
      · cases ea
  · exact q.elim
/-! ### several names at once -/
@[simp] def putAt (i : Nat) (o : O) (st : St) : Option St := if i < st.loc.length then some { st with loc := st.loc.set i (some o) } else none
@[simp] def sPar2 (i j : Nat) (fa fb : XE) : XS := fun st => bindO (fa st) fun a st => bindO (fb st) fun b st => endO ((putAt i a st).bind (putAt j b))
theorem putAt_some {i : Nat} {o : O} {st st' : St} (h : putAt i o st = some st') : i < st.loc.length ∧ st' = { st with loc := st.loc.set i (some o) } := by
  unfold putAt at h
  split at h
  · cases h; exact ⟨by assumption, rfl⟩
  · cases h
theorem ss_par2 (i j : Nat) {x y : Str} {px py pt : Pos} {kt k2 pt2} (hc : X.calm = true) (hN : X.N.Nodup) (hi : X.N[i]? = some x) (hj : X.N[j]? = some y) (hij : i ≠ j)
    (hx : X.env.scope.names.lookup x = some .local) (hy : X.env.scope.names.lookup y = some .local) (ha : SE X W a fa) (hb : SE X W b fb)
    (hw : swappedStores [.Tuple [.Name x px, .Name y py] kt pt] (.Tuple [a, b] k2 pt2) X.env = pure (some [x, y]) := by rfl)
    (hs : swapsWithSole [.Tuple [.Name x px, .Name y py] kt pt] (.Tuple [a, b] k2 pt2) pos.line X.env = pure false := by rfl)
    (s1 : starEach [a, b] X.env = (false, eval a X.env) :: starEach [b] X.env := by rfl) (s2 : starEach [b] X.env = (false, eval b X.env) :: starEach [] X.env := by rfl) :
    SS X W (.Assign [.Tuple [.Name x px, .Name y py] kt pt] (.Tuple [a, b] k2 pt2) pos) (sPar2 i j fa fb) := by
  refine ⟨PS.imp (ps_par hc hN hi hj hij hx hy (pa_cons ha.pe (pa_cons hb.pe pa_nil s2) s1) hw hs) fun D σ H ⟨st, F, μ, rep, q⟩ => ?_⟩
  refine ⟨st, F, μ, rep, AftS.bind q fun o1 st1 v1 H1 μ1 Fv1 F1 e1 m1 r1 rep1 d1 l1 x1 q1 => ?_⟩
  refine ⟨st1, F1, μ1, rep1, AftS.bind2 (Fv := Fv1) q1 m1 x1 fun o2 st2 v2 H2 μ2 Fv2 F2 e2 m2 r2 rep2 d2 l2 x2 q2 => ?_⟩
  refine ⟨v1, v2, rfl, ?_⟩
  have s1 := keepF x2 d1 l1
  have r1' := r1.step m2 s1 x2.kp
  have X2 : Ext H F H2 (fun a => Fv1 a ∨ (Fv2 a ∨ F2 a)) := x1.trans (x2.frame (G := Fv1))
  have dj1 : ∀ a, Fv1 a → (Fv2 a ∨ F2 a) → False := fun a z w => by
    rcases x2.new a w with q | q
    · exact l1 a z q
    · exact d1 a z q
  have l1' : ∀ a, Fv1 a → H2 a ≠ none := fun a z => by rw [s1 a z]; exact l1 a z
  cases ep : (putAt i o1 st2).bind (putAt j o2) with
  | none => rw [ep] at q2; exact q2.elim
  | some st4 =>
    rw [ep] at q2
    obtain ⟨st3, p1, p2⟩ := Option.bind_eq_some_iff.mp ep
    obtain ⟨b1, rfl⟩ := putAt_some p1
    obtain ⟨b2, rfl⟩ := putAt_some p2
    have ra := rep2.put b1 r1' (fun a z w => dj1 a z (.inr w)) l1' (fun _ _ => rfl) (Kp.refl H2)
    have rb := ra.put b2 r2 (fun a z w => w.elim (fun q => dj1 a q (.inl z)) (d2 a z)) l2 (fun _ _ => rfl) (Kp.refl H2)
    exact q2 _ H2 μ2 _ (m1.trans m2) rb (X2.imp fun a z => by
      rcases z with z | z | z
      · exact .inr (.inl z)
      · exact .inl z
      · exact .inr (.inr z))
@[simp] def sPar3 (i j l : Nat) (fa fb fc : XE) : XS := fun st => bindO (fa st) fun a st => bindO (fb st) fun b st => bindO (fc st) fun c st => endO (((putAt i a st).bind (putAt j b)).bind (putAt l c))
theorem ss_par3 (i j l : Nat) {x y z : Str} {px py pz pt : Pos} {kt k2 pt2} (hc : X.calm = true) (hN : X.N.Nodup) (hi : X.N[i]? = some x) (hj : X.N[j]? = some y) (hl : X.N[l]? = some z) (hij : i ≠ j) (hil : i ≠ l) (hjl : j ≠ l)
    (hx : X.env.scope.names.lookup x = some .local) (hy : X.env.scope.names.lookup y = some .local) (hz : X.env.scope.names.lookup z = some .local) (ha : SE X W a fa) (hb : SE X W b fb) (hcc : SE X W c fc)
    (hw : swappedStores [.Tuple [.Name x px, .Name y py, .Name z pz] kt pt] (.Tuple [a, b, c] k2 pt2) X.env = pure (some [x, y, z]) := by rfl)
    (hs : swapsWithSole [.Tuple [.Name x px, .Name y py, .Name z pz] kt pt] (.Tuple [a, b, c] k2 pt2) pos.line X.env = pure false := by rfl)
    (s1 : starEach [a, b, c] X.env = (false, eval a X.env) :: starEach [b, c] X.env := by rfl) (s2 : starEach [b, c] X.env = (false, eval b X.env) :: starEach [c] X.env := by rfl) (s3 : starEach [c] X.env = (false, eval c X.env) :: starEach [] X.env := by rfl) :
    SS X W (.Assign [.Tuple [.Name x px, .Name y py, .Name z pz] kt pt] (.Tuple [a, b, c] k2 pt2) pos) (sPar3 i j l fa fb fc) := by
  refine ⟨PS.imp (ps_par3 hc hN hi hj hl hij hil hjl hx hy hz (pa_cons ha.pe (pa_cons hb.pe (pa_cons hcc.pe pa_nil s3) s2) s1) hw hs) fun D σ H ⟨st, F, μ, rep, q⟩ => ?_⟩
  refine ⟨st, F, μ, rep, AftS.bind q fun o1 st1 v1 H1 μ1 Fv1 F1 e1 m1 r1 rep1 d1 l1 x1 q1 => ?_⟩
  refine ⟨st1, F1, μ1, rep1, AftS.bind2 (Fv := Fv1) q1 m1 x1 fun o2 st2 v2 H2 μ2 Fv2 F2 e2 m2 r2 rep2 d2 l2 x2 q2 => ?_⟩
  have k1 := keepF x2 d1 l1
  have r1' := r1.step m2 k1 x2.kp
  have X2 : Ext H F H2 (fun a => (Fv1 a ∨ Fv2 a) ∨ F2 a) := x1.trans ((x2.frame (G := Fv1)).imp fun a z => by
    rcases z with (z | z) | z
    · exact .inl z
    · exact .inr (.inl z)
    · exact .inr (.inr z))
  have dj1 : ∀ a, Fv1 a → (Fv2 a ∨ F2 a) → False := fun a z w => by
    rcases x2.new a w with q | q
    · exact l1 a z q
    · exact d1 a z q
  have l1' : ∀ a, Fv1 a → H2 a ≠ none := fun a z => by rw [k1 a z]; exact l1 a z
  refine ⟨st2, F2, μ2, rep2, AftS.bind2 (Fv := fun a => Fv1 a ∨ Fv2 a) q2 (m1.trans m2) X2 fun o3 st3 v3 H3 μ3 Fv3 F3 e3 m3 r3 rep3 d3 l3 x3 q3 => ?_⟩
  refine ⟨v1, v2, v3, rfl, ?_⟩
  have dA : ∀ a, (Fv1 a ∨ Fv2 a) → F2 a → False := fun a z w => z.elim (fun q => dj1 a q (.inr w)) fun q => d2 a q w
  have lA : ∀ a, (Fv1 a ∨ Fv2 a) → H2 a ≠ none := fun a z => z.elim (l1' a) (l2 a)
  have kA := keepF x3 dA lA
  have r1'' := r1'.step m3 (fun a z => kA a (.inl z)) x3.kp
  have r2'' := r2.step m3 (fun a z => kA a (.inr z)) x3.kp
  have X3 : Ext H F H3 (fun a => (Fv1 a ∨ Fv2 a) ∨ (Fv3 a ∨ F3 a)) := X2.trans (x3.frame (G := fun a => Fv1 a ∨ Fv2 a))
  have djA : ∀ a, (Fv1 a ∨ Fv2 a) → (Fv3 a ∨ F3 a) → False := fun a z w => by
    rcases x3.new a w with q | q
    · exact lA a z q
    · exact dA a z q
  have lA' : ∀ a, (Fv1 a ∨ Fv2 a) → H3 a ≠ none := fun a z => by rw [kA a z]; exact lA a z
  cases ep : ((putAt i o1 st3).bind (putAt j o2)).bind (putAt l o3) with
  | none => rw [ep] at q3; exact q3.elim
  | some st6 =>
    rw [ep] at q3
    obtain ⟨st5, p0, p3⟩ := Option.bind_eq_some_iff.mp ep
    obtain ⟨st4, p1, p2⟩ := Option.bind_eq_some_iff.mp p0
    obtain ⟨b1, rfl⟩ := putAt_some p1
    obtain ⟨b2, rfl⟩ := putAt_some p2
    obtain ⟨b3, rfl⟩ := putAt_some p3
    have ra := rep3.put b1 r1'' (fun a z w => djA a (.inl z) (.inr w)) (fun a z => lA' a (.inl z)) (fun _ _ => rfl) (Kp.refl H3)
    have rb := ra.put b2 r2'' (fun a z w => w.elim (fun q => dj1 a q (.inl z)) fun q => djA a (.inr z) (.inr q)) (fun a z => lA' a (.inr z)) (fun _ _ => rfl) (Kp.refl H3)
    have rc := rb.put b3 r3 (fun a z w => by
      rcases w with w | w | w
      · exact djA a (.inr w) (.inl z)
      · exact djA a (.inl w) (.inl z)
      · exact d3 a z w) l3 (fun _ _ => rfl) (Kp.refl H3)
    exact q3 _ H3 μ3 _ ((m1.trans m2).trans m3) rc (X3.imp fun a z => by
      rcases z with z | z | z | z
      · exact .inr (.inl z)
      · exact .inl (.inr z)
      · exact .inl (.inl z)
      · exact .inr (.inr z))
end
end Tr
namespace Tr
open PySem PySem.Spec PyProof.Rows L2
section
variable {X : Cx} {W : WX} {a b c e ie : Expr} {es : List Expr} {fa fb fc f fi : XE} {ga : St → Out Bool} {pos p apos p2 : Pos} {s : Stmt} {rest body : List Stmt} {f1 f2 : XS} {σ : L2.St} {H : Hp} {st : St} {F : FP} {μ : Mu} {x : Str} {g : St → Out (List O)}
/-! ### slices -/
abbrev XP := St → Out (Option Int)
def tP (K : PySem.W.Frag) (W : WX) (f : XP) : TO := fun σ H Q => ∃ st F μ, Rep K σ μ H F st ∧ Aft K W σ (fun _ _ _ (b : Option Int) c => b = c) (f st) μ H F Q
structure SP (X : Cx) (W : WX) (e : Option Expr) (f : XP) : Prop where
  po : PO X e (tP X.K W f)
theorem PO.imp {X : Cx} {e : Option Expr} {t t' : TO} (h : PO X e t) (w : ∀ σ H Q, t' σ H Q → t σ H Q) : PO X e t' := ⟨fun pins s σ H Q I q => h.run pins s σ H Q I (w σ H Q q)⟩
@[simp] def pNo : XP := fun st => .ok none st
@[simp] def pSo (f : XE) : XP := fun st => bindO (f st) fun o st => match o with
  | .d (.int i) => .ok (some i) st
  | _ => .no
theorem sp_none : SP X W none pNo := ⟨PO.imp po_none fun σ H Q ⟨st, F, μ, rep, q⟩ => q none H μ (fun _ => False) F (List.prefix_refl _) rfl rep (fun _ z => z.elim) (fun _ z => z.elim) (Ext.refl fun a z => z.elim False.elim id)⟩
theorem sp_some (h : SE X W e f) : SP X W (some e) (pSo f) := by
  refine ⟨PO.imp (po_some h.pe) fun σ H Q ⟨st, F, μ, rep, q⟩ => ?_⟩
  refine ⟨st, F, μ, rep, Aft.bind (Fv := fun _ => False) q (List.prefix_refl _) (Ext.refl fun a z => z.elim False.elim id) fun o1 st1 v1 H1 μ1 Fv1 F1 e1 m1 r1 rep1 d1 l1 x1 q1 => ?_⟩
  split at q1
  · cases r1.int
    exact ⟨_, rfl, q1 _ H1 μ1 (fun _ => False) F1 m1 rfl rep1 (fun _ z => z.elim) (fun _ z => z.elim) (x1.imp fun a z => z.elim False.elim .inr)⟩
  · exact q1.elim
def cutD (xs : List PyData) (lo hi : Option Int) : List PyData := (xs.drop (HT.sIx xs.length 0 lo)).take (HT.sIx xs.length xs.length hi - HT.sIx xs.length 0 lo)
theorem cutD_rp {K : PySem.W.Frag} {H : Hp} {vs : List V} {ds : List PyData} (r : RpL K H vs ds) (lo hi : Option Int) : RpL K H (cutV vs lo hi) (cutD ds lo hi) := by
  unfold cutV cutD
  rw [r.length]
  exact RpL.take _ (RpL.drop _ r)
@[simp] def oCut (o : O) (lo hi : Option Int) : Option O := match listO o with
  | some xs => some (.lst (cutD xs lo hi))
  | none => match o with
    | .d (.tuple xs) => if HT.sIx xs.length 0 lo = 0 ∧ HT.sIx xs.length xs.length hi = xs.length then none else some (.d (.tuple (cutD xs lo hi)))
    | _ => none
@[simp] def retO (o : Option O) (st : St) : Out O := match o with
  | some o => .ok o st
  | none => .no
@[simp] def xCut (f : XE) (fl fh : XP) : XE := fun st => bindO (f st) fun o st => bindO (fl st) fun lo st => bindO (fh st) fun hi st => retO (oCut o lo hi) st
theorem sl_2 : SlR X (fun x lo hi H Q => rSlL X.K x lo hi H Q ∨ rSlT X.K x lo hi H Q) := sl_list.or sl_tup
theorem se_cut {lo hi : Option Expr} {fl fh : XP} (h : SE X W e f) (hl : SP X W lo fl) (hh : SP X W hi fh) : SE X W (.Subscript e (.Slice lo hi none p2) pos) (xCut f fl fh) := by
  refine ⟨PE.imp (pe_slice sl_2 h.pe hl.po hh.po) fun σ H Q ⟨st, F, μ, rep, q⟩ => ?_⟩
  refine ⟨st, F, μ, rep, Aft.bind (Fv := fun _ => False) q (List.prefix_refl _) (Ext.refl fun a z => z.elim False.elim id) fun o1 st1 v1 H1 μ1 Fv1 F1 e1 m1 r1 rep1 d1 l1 x1 q1 => ?_⟩
  refine ⟨st1, F1, μ1, rep1, Aft.bind (Fv := Fv1) q1 m1 x1 fun o2 st2 v2 H2 μ2 Fv2 F2 e2 m2 r2 rep2 d2 l2 x2 q2 => ?_⟩
  subst r2
  have k1 := keepF x2 d1 l1
  have r1' := r1.step m2 k1 x2.kp
  have X2 : Ext H F H2 (fun a => Fv1 a ∨ F2 a) := x1.trans ((x2.frame (G := Fv1)).imp fun a z => z.imp id .inr)
  have D2 : ∀ a, Fv1 a → F2 a → False := fun a z w => by
    rcases x2.new a (.inr w) with q | q
    · exact l1 a z q
    · exact d1 a z q
  have L2' : ∀ a, Fv1 a → H2 a ≠ none := fun a z => by rw [k1 a z]; exact l1 a z
  refine ⟨st2, F2, μ2, rep2, Aft.bind (Fv := Fv1) q2 (m1.trans m2) X2 fun o3 st3 v3 H3 μ3 Fv3 F3 e3 m3 r3 rep3 d3 l3 x3 q3 => ?_⟩
  subst r3
  have k2 := keepF x3 D2 L2'
  have r1'' := r1'.step m3 k2 x3.kp
  have X3 : Ext H F H3 (fun a => Fv1 a ∨ F3 a) := X2.trans ((x3.frame (G := Fv1)).imp fun a z => z.imp id .inr)
  unfold retO at q3
  split at q3
  · rename_i o eo
    have fin := Aft.fin q3 ((m1.trans m2).trans m3) rep3 X3
    unfold oCut at eo
    split at eo
    · rename_i ds el
      cases eo
      obtain ⟨p', xs, rfl, h1, r⟩ := r1''.list el
      exact .inl ⟨p', xs, rfl, Rd.sq h1, fin.list (cutD_rp r _ _)⟩
    · split at eo
      · rename_i ds _
        split at eo
        · cases eo
        · rename_i hn
          cases eo
          obtain ⟨p', xs, rfl, h1, r⟩ := r1''.tuple
          exact .inr ⟨p', xs, rfl, h1, by rw [r.length]; exact hn, fin.tuple (cutD_rp r _ _)⟩
      · cases eo
  · exact q3.elim
/-- x[::-1] -/
def xRev (f : XE) : XE := fun st => bindO (f st) fun o st => match listO o with
  | some xs => .ok (.lst xs.reverse) st
  | none => .no
theorem se_rev {k : Nat} {p1 p3 : Pos} (h : SE X W e f) : SE X W (.Subscript e (.Slice none none (some (.UnaryOp .USub (.Constant (.int 1) k p1) p2)) p3) pos) (xRev f) := by
  refine ⟨PE.imp (pe_revL h.pe) fun σ H Q ⟨st, F, μ, rep, q⟩ => ?_⟩
  refine ⟨st, F, μ, rep, Aft.bind (Fv := fun _ => False) q (List.prefix_refl _) (Ext.refl fun a z => z.elim False.elim id) fun o1 st1 v1 H1 μ1 Fv1 F1 e1 m1 r1 rep1 d1 l1 x1 q1 => ?_⟩
  split at q1
  · rename_i ds el
    obtain ⟨p', xs, rfl, h1, r⟩ := r1.list el
    exact ⟨p', xs, rfl, Rd.sq h1, (Aft.fin q1 m1 rep1 x1).list r.reverse⟩
  · exact q1.elim
/-! ### isinstance(e, T), T of the built-in ones -/
@[simp] def isiO (T : String) (o : O) : Option Bool := (tyO o).bind fun t => kitB t T
@[simp] def xIsi (T : String) (f : XE) : XE := fun st => bindO (f st) fun o st => match isiO T o with
  | some b => .ok (.d (.bool b)) st
  | none => .no
theorem se_isi {T : String} {tn : Str} {p3 : Pos} (h : SE X W e f) (hm : X.mg "isinstance" = none) (hT : X.mg tn = none) (hv : bootBuiltins tn = some (.type T)) (hg : Gl X "isinstance" := by rfl) (hg2 : Gl X tn := by rfl) (hn2 : tn ≠ "__name__" := by decide) (hdb2 : (tn == ("__debug__" : Str)) = false := by decide)
    (hs1 : starEach [e, .Name tn p3] X.env = (false, eval e X.env) :: starEach [.Name tn p3] X.env := by rfl) (hs2 : starEach [.Name tn p3] X.env = (false, eval (.Name tn p3) X.env) :: starEach [] X.env := by rfl)
    (hpl : (backTo pos (starEach [.Name tn p3] X.env)).any (·.1) = false := by rfl) : SE X W (.Call (.Name "isinstance" p) [e, .Name tn p3] [] pos) (xIsi T f) := by
  have ht : PE X (.Name tn p3) (tC (.ty T)) := pe_bltn hg2 hT hv rfl hn2 hdb2
  refine ⟨PE.imp (pe_callB call_isi hg hm (by decide +kernel) (pa_cons h.pe (pa_cons ht pa_nil hs2) hs1) (by decide) (by decide) hs1 hpl) fun σ H Q ⟨st, F, μ, rep, q⟩ => ?_⟩
  refine ⟨st, F, μ, rep, Aft.bind (Fv := fun _ => False) q (List.prefix_refl _) (Ext.refl fun a z => z.elim False.elim id) fun o1 st1 v1 H1 μ1 Fv1 F1 e1 m1 r1 rep1 d1 l1 x1 q1 => ?_⟩
  split at q1
  · rename_i bb eb
    obtain ⟨t, t1, t2⟩ := Option.bind_eq_some_iff.mp eb
    exact ⟨v1, .ty T, .type t, .type T, bb, rfl, .ty T, tyO_ok r1 t1, kit_ty t2, dat_end q1 m1 rep1 x1 (.bl _)⟩
  · exact q1.elim
/-! ### a, b, .. = a list -/
def gUn (n : Nat) (gs : List PyData → St → Option St) : XG := fun o st => match listO o with
  | some ds => if ds.length = n then gs ds st else none
  | none => none
theorem sg_unl {k : Nat} {n : Nat} {ws : List Nat} {gs : List PyData → St → Option St} (hc : X.calm = true) (h : SGs X es ws gs) (hn : (assignEach es X.env).length = n := by rfl) (hst : (assignEach es X.env).findIdx? (·.1) = none := by rfl) : SG X (.Tuple es k pos) ws (gUn n gs) := by
  refine ⟨PG.imp (pg_unl hc h.pgs hn hst) fun v σ H Q ⟨o, st, F, Fv, μ, ow, rep, dj, lv, q⟩ => ?_⟩
  unfold gUn at q
  split at q
  · rename_i st' e
    split at e
    · rename_i ds el
      split at e
      · rename_i hl
        obtain ⟨a, xs, rfl, h1, r1⟩ := ow.list el
        refine ⟨a, xs, rfl, Rd.sq h1, by rw [r1.length]; exact hl, ds, st, F, μ, r1, rep, ?_⟩
        rw [e]
        exact fun σ' F' rep' sub wp => q σ' F' rep' (fun x z => .inr (sub x z)) wp
      · cases e
    · cases e
  · exact q.elim
/-! ### range with a step of two, enumerate, zip -/
def iRange3 (g : St → Out (List O)) : St → Out (List PyData) := fun st => bindO (g st) fun os st => match os with
  | [.d (.int i), .d (.int j), .d (.int c)] => if bnd i && (bnd j && decide (c = 2)) then .ok (rangeL i c ((j - i + 1) / 2).toNat) st else .no
  | _ => .no
theorem size2 (i j : Int) : Builtin.Range.rangeSize i j 2 = (((j - i + 1) / 2).toNat : Int) := by
  unfold Builtin.Range.rangeSize
  rw [if_pos (by decide)]
  split <;> omega
theorem rgC2 {i j : Int} (hi : bnd i = true) (hj : bnd j = true) : RgC i j 2 ((j - i + 1) / 2).toNat := by
  simp only [bnd, Bool.and_eq_true, decide_eq_true_eq] at hi hj
  refine ⟨by decide, by decide, ?_, size2 i j⟩
  unfold Builtin.Range.small
  rw [size2]
  simp only [Builtin.Range.rangeFitsLong, Bool.and_eq_true, Bool.or_eq_true, decide_eq_true_eq, beq_iff_eq, show (2 : Int) > 0 by decide, if_true]
  omega
theorem walk_intsC {K : PySem.W.Frag} {lo c : Int} {n : Nat} {H1 : Hp} : Wk K (Itc lo c n) (rangeL lo c n) H1 := by
  have hl : (rangeL lo c n).length = n := by unfold rangeL; rw [List.length_map, List.length_range]
  refine ⟨fun _ => True, YFn fun i => .int (lo + (i : Nat) * c), by rw [hl]; exact walk_rangeC, fun _ _ => trivial, fun i H v H' hi k y => ?_⟩
  obtain ⟨rfl, rfl⟩ := y
  rw [hl] at hi
  refine ⟨fun _ _ q => q, .int (lo + (i : Nat) * c), ?_, .int _⟩
  unfold rangeL
  rw [List.getElem?_map, List.getElem?_range hi]
  simp
/-- what is walked, by its arguments -/
def iArgs (h : List O → Option (List PyData)) (g : St → Out (List O)) : St → Out (List PyData) := fun st => bindO (g st) fun os st => match h os with
  | some ds => .ok ds st
  | none => .no
theorem args_core {tg : Expr} {h : List O → Option (List PyData)} {R : It → Hp → Prop} {k : List V → Hp → Prop} (rep : Rep X.K σ μ H F st)
    (q : match iArgs h g st with
      | .ok ds st' => ∀ H1 F1 μ1 J, μ <+: μ1 → Rep X.K σ μ1 H1 F1 st' → Ext H F H1 F1 → Wk X.K J ds H1 → R J H1
      | .exc c st' => ∀ H' μ' F', μ <+: μ' → Rep X.K σ μ' H' F' st' → Ext H F H' F' → W (.ref (He.ga X.K c)) none σ H'
      | .no => False)
    (fin : ∀ vs os ds H1 μ1, Paired (Own X.K μ1 H1 (fun _ => False)) vs os → h os = some ds → (∀ J, Wk X.K J ds H1 → R J H1) → k vs H1) : tA X.K W g σ H k := by
  refine ⟨st, F, μ, rep, ?_⟩
  unfold iArgs at q
  cases e1 : g st with
  | exc c st1 => rw [e1] at q; exact q
  | no => rw [e1] at q; exact q
  | ok os st1 =>
    rw [e1] at q
    intro vs H' μ' Fv' F' m r rep' dj lv x
    unfold bindO at q
    dsimp only at q
    cases eh : h os with
    | none => rw [eh] at q; exact q.elim
    | some ds =>
      rw [eh] at q
      exact fin vs os ds H' μ' r eh fun J wk => q H' F' μ' J m rep' (x.imp fun _ z => .inr z) wk
def rg3 : List O → Option (List PyData)
  | [.d (.int i), .d (.int j), .d (.int c)] => if bnd i && (bnd j && decide (c = 2)) then some (rangeL i 2 ((j - i + 1) / 2).toNat) else none
  | _ => none
theorem si_range3 {tg : Expr} (hm : X.mg "range" = none) (h : SA X W [a, b, c] g) (hg : Gl X "range" := by rfl) (hs : starEach [a, b, c] X.env = (false, eval a X.env) :: starEach [b, c] X.env := by rfl) (hpl : (backTo pos (starEach [b, c] X.env)).any (·.1) = false := by rfl) : SI X W tg (.Call (.Name "range" p) [a, b, c] [] pos) (iArgs rg3 g) := by
  refine ⟨PI.imp (pi_range3 hg hm h.pa hs hpl) fun σ H R ⟨st, F, μ, rep, q⟩ => args_core (tg := tg) rep q fun vs os ds H1 μ1 r e k => ?_⟩
  unfold rg3 at e
  split at e
  · split at e
    · rename_i hb
      cases e
      simp only [Bool.and_eq_true, decide_eq_true_eq] at hb
      obtain ⟨b1, b2, rfl⟩ := hb
      cases r with
      | cons r1 r2 => cases r2 with
        | cons r2 r3 => cases r3 with
          | cons r3 r4 =>
            cases r4
            cases r1.int; cases r2.int; cases r3.int
            exact ⟨_, _, 2, _, rfl, rgC2 b1 b2, k _ walk_intsC⟩
    · cases e
  · cases e
def enumD (ds : List PyData) : List PyData := ds.zipIdx.map fun p => .tuple [.int p.2, p.1]
def en1 : List O → Option (List PyData)
  | [o] => (listO o).map enumD
  | _ => none
theorem si_enum {elts : List Expr} {kk : Nat} {tpos : Pos} (hm : X.mg "enumerate" = none) (h : SA X W [a] g) (hg : Gl X "enumerate" := by rfl) (hs : starEach [a] X.env = [(false, eval a X.env)] := by rfl) : SI X W (.Tuple elts kk tpos) (.Call (.Name "enumerate" p) [a] [] pos) (iArgs en1 g) := by
  refine ⟨PI.imp (pi_enum hg hm h.pa hs) fun σ H R ⟨st, F, μ, rep, q⟩ => args_core (tg := .Tuple elts kk tpos) rep q fun vs os ds H1 μ1 r e k => ?_⟩
  unfold en1 at e
  split at e
  · obtain ⟨es, e1, rfl⟩ := Option.map_eq_some_iff.mp e
    cases r with
    | cons r1 r2 =>
      cases r2
      obtain ⟨q', xs, rfl, h1, rl⟩ := r1.list e1
      -- locked: an argument owns nothing
      have lk : ∃ ob, H1 q' = some (.frz ob (.lst xs)) := by
        cases r1 with
        | d rr => cases rr with
          | lst aa bb =>
            obtain ⟨ob, aa⟩ := aa
            rcases h1 with h1 | ⟨ob', h1⟩
            · rw [aa] at h1; cases h1
            · exact ⟨ob', h1⟩
          | _ => cases e1
        | lst _ _ z => exact z.elim
        | obj _ => cases e1
        | xcp _ _ _ => cases e1
        | tl _ _ _ _ _ _ _ _ => cases e1
        | dct _ _ _ _ => cases e1
        | dcl _ _ _ _ => cases e1
      obtain ⟨ob, lk⟩ := lk
      have hl : (enumD es).length = xs.length := by unfold enumD; rw [List.length_map, List.length_zipIdx, rl.length]
      refine ⟨q', xs, rfl, Rd.sq h1, k _ ⟨fun H => SqL X.K H q' xs, _, by rw [hl]; exact walk_enum, fun H' kp => .inl (.inr ⟨ob, kp.frz _ _ _ lk⟩), fun i H2 v H3 hi kp y => ?_⟩⟩
      obtain ⟨T, x1, x2, rfl, nT, rfl, e1, e2⟩ := y
      cases e1
      obtain ⟨d, g1, g2⟩ := rl.getV e2
      have gr : ∀ p u, H2 p = some u → (upd H2 T (.tup [.int (i : Nat), x2])) p = some u := fun p u z => by rw [upd_ne (ne_of_none z nT)]; exact z
      refine ⟨gr, .tuple [.int i, d], ?_, .tup (.inl upd_same) (.cons (.int _) (.cons ((g2.kp kp d).kp ⟨fun a xs q => gr a _ q, fun a o u q => gr a _ q⟩ d) .nil))⟩
      unfold enumD
      rw [List.getElem?_map, List.getElem?_zipIdx, g1]
      simp
  · cases e
def zip2D (ds es : List PyData) : List PyData := (ds.zip es).map fun p => .tuple [p.1, p.2]
def zp2 : List O → Option (List PyData)
  | [.d (.list ds), .d (.list es)] => some (zip2D ds es)
  | _ => none
theorem si_zip {elts : List Expr} {kk : Nat} {tpos : Pos} (hm : X.mg "zip" = none) (h : SA X W [a, b] g) (hg : Gl X "zip" := by rfl) (hs : starEach [a, b] X.env = (false, eval a X.env) :: starEach [b] X.env := by rfl) (hpl : (backTo pos (starEach [b] X.env)).any (·.1) = false := by rfl) : SI X W (.Tuple elts kk tpos) (.Call (.Name "zip" p) [a, b] [] pos) (iArgs zp2 g) := by
  refine ⟨PI.imp (pi_zip hg hm h.pa hs hpl) fun σ H R ⟨st, F, μ, rep, q⟩ => args_core (tg := .Tuple elts kk tpos) rep q fun vs os ds H1 μ1 r e k => ?_⟩
  unfold zp2 at e
  split at e
  · rename_i as bs
    cases e
    cases r with
    | cons r1 r2 => cases r2 with
      | cons r2 r3 =>
        cases r3
        have q1 := r1.rp
        have q2 := r2.rp
        cases q1 with
        | @lst p1 xs _ a1 b1 => cases q2 with
          | @lst p2 ys _ a2 b2 =>
            have hl : (zip2D as bs).length = min xs.length ys.length := by unfold zip2D; rw [List.length_map, List.length_zip, b1.length, b2.length]
            refine ⟨p1, p2, xs, ys, rfl, a1.sq, a2.sq, k _ ⟨fun H => SqL X.K H p1 xs ∧ SqL X.K H p2 ys, _, by rw [hl]; exact walk_zip rfl, fun H' kp => ⟨(a1.kp kp).sq, (a2.kp kp).sq⟩, fun i H2 v H3 hi kp y => ?_⟩⟩
            obtain ⟨T, x1, x2, rfl, nT, rfl, e1, e2⟩ := y
            obtain ⟨d1, g1, g2⟩ := b1.getV e1
            obtain ⟨d2, g3, g4⟩ := b2.getV e2
            have gr : ∀ p u, H2 p = some u → (upd H2 T (.tup [x1, x2])) p = some u := fun p u z => by rw [upd_ne (ne_of_none z nT)]; exact z
            have kg : Kp H2 (upd H2 T (.tup [x1, x2])) := ⟨fun a xs q => gr a _ q, fun a o u q => gr a _ q⟩
            refine ⟨gr, .tuple [d1, d2], ?_, .tup (.inl upd_same) (.cons ((g2.kp kp d1).kp kg d1) (.cons ((g4.kp kp d2).kp kg d2) .nil))⟩
            unfold zip2D
            rw [List.getElem?_map]
            have : (as.zip bs)[i]? = some (d1, d2) := List.getElem?_zip_eq_some.mpr ⟨g1, g3⟩
            rw [this]; rfl
  · cases e
end
/-! ### a def -/
@[simp] def bodyOut (b : XS) (n : Nat) (os : List O) (g : List Cell) : FOut := match b ⟨os.map some ++ List.replicate (n - os.length) none, g⟩ with
  | .ok .next st => .ok (.d .none) st.g
  | .ok (.ret o) st => .ok o st.g
  | .exc c st => .exc c st.g
  | _ => .no
theorem start_rep {K : PySem.W.Frag} {μ : Mu} {H : Hp} {F : FP} {g : List Cell} {vs : List V} {os : List O} {N : List Str} (r : Paired (Own K μ H (fun _ => False)) vs os) (gr : GRep K μ H F g) : Rep K (L2.start N vs) μ H F ⟨os.map some ++ List.replicate (N.length - os.length) none, g⟩ := by
  obtain ⟨S, R, h1, h2, h3, h4, h5, h6, h7⟩ := gr.ex
  have hl : vs.length = os.length := Paired.length r
  refine ⟨⟨fun _ _ => False, R, fun i o e => ?_, h2, fun _ _ _ z => z.elim, h4, fun _ _ _ z => z.elim, fun _ _ z => z.elim, h7⟩, gr.live, gr.mu, ?_⟩
  · have e : (os.map some ++ List.replicate (N.length - os.length) none)[i]? = some (some o) := e
    by_cases hi : i < os.length
    · rw [List.getElem?_append_left (by simpa using hi), List.getElem?_map] at e
      obtain ⟨o', e1, e2⟩ := Option.map_eq_some_iff.mp e
      cases e2
      have : ∀ {vs : List V} {os : List O} {i : Nat} {o : O}, Paired (Own K μ H (fun _ => False)) vs os → os[i]? = some o → ∃ v, vs[i]? = some v ∧ Own K μ H (fun _ => False) v o := by
        intro vs os i o r
        induction r generalizing i with
        | nil => intro e; simp at e
        | cons a b ih =>
          intro e
          cases i with
          | zero => simp at e; subst e; exact ⟨_, rfl, a⟩
          | succ i => obtain ⟨v, q1, q2⟩ := ih (by simpa using e); exact ⟨v, by simpa using q1, q2⟩
      obtain ⟨v, q1, q2⟩ := this r e1
      refine ⟨v, ?_, q2⟩
      unfold L2.start
      rw [List.getElem?_append_left (by rw [List.length_map, hl]; exact hi), List.getElem?_map, q1]; rfl
    · rw [List.getElem?_append_right (by simpa using hi), List.getElem?_replicate] at e
      split at e <;> cases e
  · show (os.map some ++ List.replicate (N.length - os.length) none).length = (L2.start N vs).length
    unfold L2.start
    rw [List.length_append, List.length_append, List.length_map, List.length_map, List.length_replicate, List.length_replicate, hl]
section
variable {P : Program} {w : World} {K : PySem.W.Frag} {mg : Str → Option Value} {base : Heap}
theorem cal_def {x qual : Str} {params : Arguments} {body : List Stmt} {scope : Scope} {f : Addr} {fd : FuncData} {N ps : List Str} {k : Nat} (Fd : FunD K x qual params body scope [] [] f fd) (hm : mg x = some (.ref f)) (hb : Binds K fd ps []) (S : FnScope N ps scope) (b : Nat → XS) (sem : FSem)
    (ok : ∀ (n : Nat) (cdv : Value) (A : Around) (outer : List Env) (s : Shared) (H : Hp) (E : XK), Room k (A.deeper (envOfC qual scope s.heap.objs.size f cdv)) → SSs (cxOf (L2.CX P w) P w K mg base N qual scope f cdv A outer s H E) (fun c d _ H => E c d H) body (b n))
    (heq : ∀ os g, os.length = ps.length → sem os g = .no ∨ ∃ n, bodyOut (b n) N.length os g = sem os g) : Cal P w K mg base (k + 1) x ps sem := by
  refine ⟨f, fd, Fd.ok S (fun vs H Q E h => ?_) (fun cdv A outer s H vs Q E hr h => ?_), hm, Fd.kp, hb⟩
  · obtain ⟨os, g, F, μ, hl, pr, gr, m⟩ := h
    rw [← hl]; exact Paired.length pr
  · obtain ⟨os, g, F, μ, hl, pr, gr, m⟩ := h
    rcases heq os g hl with e | ⟨n, e⟩
    · rw [e] at m; exact m.elim
    · refine ⟨_, (ok n cdv A outer s H E hr).pss, _, F, μ, start_rep pr gr, ?_⟩
      unfold bodyOut at e
      rw [← e] at m
      cases eb : b n ⟨os.map some ++ List.replicate (N.length - os.length) none, g⟩ with
      | no => rw [eb] at m; exact m.elim
      | exc c st => rw [eb] at m; exact fun σ' H' μ' F' a b c => m H' μ' F' a b.glob c
      | ok fl st =>
        rw [eb] at m
        cases fl with
        | next => exact fun σ' H' μ' F' a b c => m .non H' μ' (fun _ => False) F' a (.d .non) b.glob (fun _ z => z.elim) (fun _ z => z.elim) (c.imp fun a z => z.elim False.elim id)
        | ret o => exact fun v σ' H' μ' Fv F' a b c d e f => m v H' μ' Fv F' a b c.glob d e f
        | brk => exact m.elim
        | cont => exact m.elim
end
end Tr
namespace Tr
open PySem PySem.Spec PyProof.Rows L2
section
variable {X : Cx} {W : WX} {a b c e ie : Expr} {es : List Expr} {fa fb fc f fi : XE} {ga : St → Out Bool} {pos p apos p2 : Pos} {s : Stmt} {rest body : List Stmt} {f1 f2 : XS} {σ : L2.St} {H : Hp} {st : St} {F : FP} {μ : Mu} {x : Str} {g : St → Out (List O)}
/-! ### short words -/
theorem ev (i : Nat) (hN : X.N[i]? = some x := by rfl) (hv : Vis X.env.scope x := by first | exact Or.inl rfl | exact Or.inr (Or.inl rfl) | exact Or.inr (Or.inr rfl)) (hd : (x == ("__debug__" : Str)) = false := by decide)
    (hcd : (x == ("__classdict__" : Str)) = false := by decide) : SE X W (.Name x pos) (xVar i) := se_var i (pe_var hN hv hd hcd)
theorem sgn (i : Nat) {vs : List Nat} (nd : X.N.Nodup) (hi : X.N[i]? = some x := by rfl) (hx : Loc X.env.scope x := by first | exact Or.inl rfl | exact Or.inr rfl)
    (hf : X.fn x = true ∨ X.env.scope.names.lookup x = some .local := by first | exact .inl rfl | exact .inr rfl) (hm : i ∈ vs := by decide) : SG X (.Name x pos) vs (gN i) := sg_name i (pg_name nd hi hx hf) hm
theorem sset (i : Nat) {pos' : Pos} (nd : X.N.Nodup) (he : SE X W e f) (hi : X.N[i]? = some x := by rfl) (hx : Loc X.env.scope x := by first | exact Or.inl rfl | exact Or.inr rfl)
    (hs : swapsWith e (some (.Name x pos')) pos.line X.env = pure false := by rfl) (hf : X.fn x = true ∨ X.env.scope.names.lookup x = some .local := by first | exact .inl rfl | exact .inr rfl) : SS X W (.Assign [.Name x pos'] e pos) (sAsg f (gN i)) := ss_set i nd hi hx he hs hf
theorem saug (i : Nat) {pos' : Pos} (nd : X.N.Nodup) (h : SE X W e f) (hi : X.N[i]? = some x := by rfl) (hx : Loc X.env.scope x := by first | exact Or.inl rfl | exact Or.inr rfl)
    (hf : X.fn x = true ∨ X.env.scope.names.lookup x = some .local := by first | exact .inl rfl | exact .inr rfl) : SS X W (.AugAssign (.Name x pos') .Add e pos) (sAug i f) := ss_aug i nd hi hx h hf
/-- a constant of the module that is this datum -/
structure GC (K : PySem.W.Frag) (mg : Str → Option Value) (x : Str) (d : PyData) : Prop where
  ex : ∃ u v, mg x = some u ∧ RelV v u ∧ ∀ H, Rp K H v d
theorem egc {d : PyData} (h : GC X.K X.mg x d) (hg : Gl X x := by rfl) (hdb : (x == ("__debug__" : Str)) = false := by decide) : SE X W (.Name x pos) (xC d) := by
  obtain ⟨u, v, h1, h2, h3⟩ := h.ex
  exact se_glob h1 h2 h3 hg hdb
abbrev oAdd : O → O → Option O := orO oAddI (orO oCatL (orO oCatT oCatS))
abbrev rAddX (K : PySem.W.Frag) : R2 := fun x y H Q => (rI0 fun i j => .int (i + j)) x y H Q ∨ (rCatR x y H Q ∨ (rCatT K x y H Q ∨ rCatS x y H Q))
theorem eadd (ha : SE X W a fa) (hb : SE X W b fb) : SE X W (.BinOp a .Add b pos) (xOp2 oAdd fa fb) :=
  se_op (r := rAddX X.K) (op_add.or (op_catR.or (op_catT.or op_add_str))) ((v2_I0 fun _ _ _ => .int _).or (v2_catL.or (v2_catT.or v2_catS))) ha hb
theorem esub (ha : SE X W a fa) (hb : SE X W b fb) : SE X W (.BinOp a .Sub b pos) (xOp2 oSub fa fb) := se_op op_sub (v2_I0 fun _ _ _ => .int _) ha hb
theorem cMul_ok (i j : Int) (h : cMul i j = true) : CMul i j := by
  simp only [cMul, Bool.or_eq_true, Bool.and_eq_true, decide_eq_true_eq] at h
  rcases h with ⟨h1, h2⟩ | ⟨h1, h2⟩
  · exact .inl ⟨by omega, by omega⟩
  · exact .inr ⟨by omega, by omega⟩
abbrev oMul : O → O → Option O := orO oMulI oRep
theorem emul (ha : SE X W a fa) (hb : SE X W b fb) : SE X W (.BinOp a .Mult b pos) (xOp2 oMul fa fb) := se_op (op_mul.or op_rep) ((v2_I cMul_ok fun _ _ _ => .int _).or v2_rep) ha hb
theorem emod (ha : SE X W a fa) (hb : SE X W b fb) : SE X W (.BinOp a .Mod b pos) (xOp2 oMod fa fb) := se_op op_mod (v2_I (fun i j h => of_decide_eq_true h) fun _ _ _ => .int _) ha hb
theorem ediv (ha : SE X W a fa) (hb : SE X W b fb) : SE X W (.BinOp a .FloorDiv b pos) (xOp2 oDiv fa fb) := se_op op_fdiv (v2_I (fun i j h => by
  simp only [cDiv, Bool.and_eq_true, decide_eq_true_eq] at h; exact h) fun _ _ _ => .int _) ha hb
theorem epow (ha : SE X W a fa) (hb : SE X W b fb) : SE X W (.BinOp a .Pow b pos) (xOp2 oPow fa fb) := se_op op_pow (v2_I (fun i j h => by
  simp only [cPow, Bool.and_eq_true, decide_eq_true_eq] at h; obtain ⟨h1, h2, h3⟩ := h; exact ⟨h1, h2, by omega⟩) fun _ _ _ => .int _) ha hb
/-- comparisons: rule, values -/
structure CR (X : Cx) (op : CmpOp) (h : O → O → Option O) : Prop where
  ex : ∃ r, OpR X (compareOp op) r ∧ V2 X.K r h
theorem cr_eq (hu : X.A.units + 64 < cLine) : CR X .Eq oEq := ⟨_, op_eqD hu, v2_eq⟩
theorem cr_ne (hu : X.A.units + 64 < cLine) : CR X .NotEq oNe := ⟨_, op_neD hu, v2_ne⟩
theorem cr_lt : CR X .Lt oLt := ⟨_, op_lt, v2_I0 fun _ _ _ => .bl _⟩
theorem cr_le : CR X .LtE oLe := ⟨_, op_le, v2_I0 fun _ _ _ => .bl _⟩
theorem cr_gt : CR X .Gt oGt := ⟨_, op_gt, v2_I0 fun _ _ _ => .bl _⟩
theorem cr_ge : CR X .GtE oGe := ⟨_, op_ge, v2_I0 fun _ _ _ => .bl _⟩
theorem cr_is : CR X .Is oIs := ⟨_, op_isX, v2_is⟩
theorem cr_isn : CR X .IsNot oIsNot := ⟨_, op_isNotX, v2_isNot⟩
abbrev oIn : O → O → Option O := orO (oInL false) (oInT false)
abbrev oNotIn : O → O → Option O := orO (oInL true) (oInT true)
theorem cr_in (hu : X.A.units + 65 < cLine) : CR X .In oIn := ⟨fun x y H Q => rInD X.K x y H Q ∨ rInTu X.K false x y H Q, (op_inD hu).or (op_inTu hu), v2_inL.or (v2_inT false)⟩
theorem cr_notin (hu : X.A.units + 65 < cLine) : CR X .NotIn oNotIn := ⟨fun x y H Q => rNotInD X.K x y H Q ∨ rInTu X.K true x y H Q, (op_notInD hu).or (op_notInTu hu), v2_notInL.or (v2_inT true)⟩
theorem ecmp {op : CmpOp} {h : O → O → Option O} (r : CR X op h) (ha : SE X W a fa) (hb : SE X W b fb) (hm : behindInMarks op b = false := by rfl) : SE X W (.Compare a [op] [b] pos) (xOp2 h fa fb) := let ⟨_, h1, h2⟩ := r.ex; se_cmp h1 h2 ha hb hm
theorem ecmpv {op : CmpOp} {h : O → O → Option O} (i : Nat) (r : CR X op h) (ha : PE X a (tVar i)) (hb : SE X W b fb) (hm : behindInMarks op b = false := by rfl) : SE X W (.Compare a [op] [b] pos) (xOp2v h i fb) := let ⟨_, h1, h2⟩ := r.ex; se_cmpv i h1 h2 ha hb hm
theorem ecmpw {op : CmpOp} {h : O → O → Option O} (i : Nat) (r : CR X op h) (ha : SE X W a fa) (hb : PE X b (tVar i)) (hm : behindInMarks op b = false := by rfl) : SE X W (.Compare a [op] [b] pos) (xOp2w h fa i) := let ⟨_, h1, h2⟩ := r.ex; se_cmpw i h1 h2 ha hb hm
theorem tcmp {op : CmpOp} {h : O → O → Option O} (r : CR X op h) (ha : SE X W a fa) (hb : SE X W b fb) (hm : behindInMarks op b = false := by rfl) : ST X W (.Compare a [op] [b] pos) (tVal (xOp2 h fa fb)) := let ⟨_, h1, h2⟩ := r.ex; st_cmp h1 h2 ha hb hm
theorem tcmpv {op : CmpOp} {h : O → O → Option O} (i : Nat) (r : CR X op h) (ha : PE X a (tVar i)) (hb : SE X W b fb) (hm : behindInMarks op b = false := by rfl) : ST X W (.Compare a [op] [b] pos) (tVal (xOp2v h i fb)) := let ⟨_, h1, h2⟩ := r.ex; st_cmpv i h1 h2 ha hb hm
theorem tcmpw {op : CmpOp} {h : O → O → Option O} (i : Nat) (r : CR X op h) (ha : SE X W a fa) (hb : PE X b (tVar i)) (hm : behindInMarks op b = false := by rfl) : ST X W (.Compare a [op] [b] pos) (tVal (xOp2w h fa i)) := let ⟨_, h1, h2⟩ := r.ex; st_cmpw i h1 h2 ha hb hm
theorem frzV (i : Nat) : ∀ st o st', xVar i st = .ok o st' → frz o = o := fun st o st' e => by
  unfold xVar at e
  split at e
  all_goals first
    | (cases e; rfl)
    | cases e
theorem echain {op op' : CmpOp} {h h' : O → O → Option O} (i : Nat) (r : CR X op h) (r' : CR X op' h') (ha : SE X W a fa) (hb : SE X W b (xVar i)) (hc : SE X W c fc) (hm : lastMarks [op, op'] [b, c] = false := by with_unfolding_all rfl) : SE X W (.Compare a [op, op'] [b, c] pos) (xChain h h' fa (xVar i) fc) :=
  let ⟨_, h1, h2⟩ := r.ex
  let ⟨_, h3, h4⟩ := r'.ex
  se_chain h1 h3 h2 h4 ha hb hc (frzV i) hm
theorem tchain {op op' : CmpOp} {h h' : O → O → Option O} (i : Nat) (r : CR X op h) (r' : CR X op' h') (ha : SE X W a fa) (hb : SE X W b (xVar i)) (hc : SE X W c fc) (hm : lastMarks [op, op'] [b, c] = false := by with_unfolding_all rfl) : ST X W (.Compare a [op, op'] [b, c] pos) (tVal (xChain h h' fa (xVar i) fc)) :=
  let ⟨_, h1, h2⟩ := r.ex
  let ⟨_, h3, h4⟩ := r'.ex
  st_chain h1 h3 h2 h4 ha hb hc (frzV i) hm
theorem eix (ha : SE X W a fa) (hb : SE X W b fb) (hs : PlainIx b := by exact fun _ _ => rfl) : SE X W (.Subscript a b pos) (xOp2 oIx fa fb) := se_ix ix_2 v2_ix ha hb hs
theorem eixv (i : Nat) (ha : PE X a (tVar i)) (hb : SE X W b fb) (hs : PlainIx b := by exact fun _ _ => rfl) : SE X W (.Subscript a b pos) (xOp2v oIx i fb) := se_ixv i ix_2 v2_ix ha hb hs
theorem calm_ok {P : Program} {w : World} {CX : CXT} {K : PySem.W.Frag} {mg : Str → Option Value} {base : Heap} {N : List Str} {qual : Str} {scope : Scope} {f : Addr} {cd : Value} {A : Around} {outer : List Env} {s : Shared} {H : Hp} {E : XK} : (cxOf CX P w K mg base N qual scope f cd A outer s H E).calm = true := rfl
theorem hu65 {A : Around} {k : Nat} (r : Room k A) : A.units + 65 < cLine := by have := r.un; omega
/-- an exception class of the text over ValueError -/
structure XcF (K : PySem.W.Frag) (mg : Str → Option Value) (cn : Str) : Prop where
  q : PySem.W.excIn K (He.ga K cn) He.veBase "ValueError.__new__" = true
  gC : mg cn = some (.ref (He.ga K cn))
  kC : PySem.W.keepIn K (.ref (He.ga K cn)) = true
  sub : PySem.W.subIn K (.ref (He.ga K cn)) (.type "BaseException") = some true
  ty : PySem.W.typeIn K (.ref (He.ga K cn)) = some (.type "type")
theorem sraise {cn m : Str} {j : Nat} {p2 p3 : Pos} (x : XcF X.K X.mg cn) (hc : X.calm = true) (tk : Takes X W) (hg : Gl X cn := by rfl) (hdb : (cn == ("__debug__" : Str)) = false := by decide) : SS X W (.Raise (some (.Call (.Name cn p) [.Constant (.str m) j p2] [] p3)) none pos) (sRaise cn) :=
  ss_raise hc tk PySem.F.excBase_ValueError x.q x.gC x.kC (raises_own x.sub x.ty) hg hdb
theorem sfor {tg iter : Expr} {f : St → Out (List PyData)} {gx : XG} {vs : List Nat} (hp : PassesOwn (model X.prog X.w) X.A X.env X.xe) (hc : X.calm = true) (hi : SI X W tg iter f) (hg : SG X tg vs gx) (hb : SSs X W body f1)
    (hs : ∀ x, foldedSetIterable iter X.env x = pure x := by intro _; rfl) : SS X W (.For tg iter body [] pos) (sFor f gx f1) := ss_for hp hc hi hg hb hs
end
end Tr
namespace Tr
open PySem PySem.Spec PyProof.Rows L2
/-! ### lists of the store -/
section
variable {K : PySem.W.Frag} {σ : L2.St} {μ μ' : Mu} {H H' : Hp} {F F' : FP} {st : St}
theorem Rep.cell (h : Rep K σ μ H F st) {k : Nat} {c : Cell} (e : st.g[k]? = some c) : ∃ a, μ[k]? = some a ∧ OwnC K μ H F a c := by
  obtain ⟨S, R, h1, h2, h3, h4, h5, h6, h7⟩ := h.ex
  obtain ⟨a, q1, q2⟩ := h2 k c e
  refine ⟨a, q1, ?_⟩
  cases q2 with
  | scr q => exact .scr q
  | lst a1 a2 a3 => exact .lst a1 a2 (h7 k _ a3)
  | dct a b c d => exact .dct a b c (h7 k _ d)
  | ins a b c d e2 => exact .ins a b c (h7 k _ d) (h7 k _ e2)
theorem Rep.chgG (h : Rep K σ μ H F st) {k : Nat} {os : List O} {a : Addr} (e : st.g[k]? = some (.lst os)) (em : μ[k]? = some a) :
    ∃ vs, H a = some (.lst vs) ∧ Paired (Own K μ H (fun _ => False)) vs os ∧ F a ∧ ∀ (es : List O) (ys : List V), Paired (Own K μ H (fun _ => False)) ys es → Kp H (upd H a (.lst ys)) ∧ Rep K σ μ (upd H a (.lst ys)) F { st with g := st.g.set k (.lst es) } ∧ Ext H F (upd H a (.lst ys)) F := by
  obtain ⟨S, R, h1, h2, h3, h4, h5, h6, h7⟩ := h.ex
  obtain ⟨a', q1, q2⟩ := h2 k _ e
  rw [em] at q1; cases q1
  cases q2 with
  | lst ha hr hs =>
    refine ⟨_, ha, hr, h7 k a hs, fun es ys rl => ?_⟩
    have kp := Kp.put (ys := ys) ha
    have ou : ∀ b, b ≠ a → (upd H a (.lst ys)) b = H b := fun b nb => upd_ne nb
    refine ⟨kp, ⟨⟨S, R, fun j o' e' => ?_, fun k' c e' => ?_, h3, h4, h5, h6, h7⟩, fun b z => ?_, ?_, h.len⟩, ⟨fun b u q n => ?_, kp, fun b z => .inr z⟩⟩
    · obtain ⟨w, r1, r2⟩ := h1 j o' e'
      exact ⟨w, r1, r2.step (List.prefix_refl _) (fun b z => ou b fun w' => h5 j k a (w' ▸ z) hs) kp⟩
    · have e' : (st.g.set k (.lst es))[k']? = some c := e'
      by_cases hk : k = k'
      · subst hk
        rw [List.getElem?_set_self (List.getElem?_eq_some_iff.mp e).1] at e'
        cases e'
        exact ⟨a, em, .lst upd_same (Own.steps rl (List.prefix_refl _) kp) hs⟩
      · rw [List.getElem?_set_ne hk] at e'
        obtain ⟨w, r1, r2⟩ := h2 k' c e'
        exact ⟨w, r1, r2.step (List.prefix_refl _) (fun b z => ou b fun w' => hk (h4 k k' a hs (w' ▸ z))) kp⟩
    · by_cases nb : b = a
      · subst nb; rw [upd_same]; simp
      · rw [ou b nb]; exact h.live b z
    · show μ.length = (st.g.set k (.lst es)).length
      rw [List.length_set]; exact h.mu
    · rw [ou b fun w' => n (w' ▸ h7 k a hs)]; exact q
/-- a list comes into the store -/
theorem Rep.pushG (h : Rep K σ μ H F st) {p : Addr} {vs : List V} {os : List O} (hp : H p = some (.lst vs)) (nF : ¬ F p) (ow : Paired (Own K (μ ++ [p]) H (fun _ => False)) vs os) :
    Rep K σ (μ ++ [p]) H (fun a => F a ∨ a = p) { st with g := st.g ++ [.lst os] } := by
  obtain ⟨S, R, h1, h2, h3, h4, h5, h6, h7⟩ := h.ex
  have hm := h.mu
  refine ⟨⟨S, fun k => if k = st.g.length then fun a => a = p else R k, fun j o e => ?_, fun k c e => ?_, h3, fun k l a z w => ?_, fun i k a z w => ?_, fun i a z => .inl (h6 i a z), fun k a z => ?_⟩, fun a z => ?_, ?_, h.len⟩
  · obtain ⟨w, r1, r2⟩ := h1 j o e
    exact ⟨w, r1, r2.step (List.prefix_append ..) (fun _ _ => rfl) (Kp.refl H)⟩
  · have e : (st.g ++ [Cell.lst os])[k]? = some c := e
    by_cases hk : k = st.g.length
    · subst hk
      rw [List.getElem?_append_right (Nat.le_refl _)] at e
      simp at e
      subst e
      refine ⟨p, by rw [← hm, List.getElem?_append_right (Nat.le_refl _)]; simp, .lst hp ow ?_⟩
      show (if st.g.length = st.g.length then fun a => a = p else R st.g.length) p
      rw [if_pos rfl]
    · have lt : k < st.g.length := by
        have := (List.getElem?_eq_some_iff.mp e).1
        rw [List.length_append] at this
        simp at this
        omega
      rw [List.getElem?_append_left lt] at e
      obtain ⟨w, r1, r2⟩ := h2 k c e
      refine ⟨w, by rw [List.getElem?_append_left (by rw [hm]; exact lt)]; exact r1, ?_⟩
      show OwnC K (μ ++ [p]) H (if k = st.g.length then fun a => a = p else R k) w c
      rw [if_neg hk]
      exact r2.step (List.prefix_append ..) (fun _ _ => rfl) (Kp.refl H)
  · dsimp only at z w
    split at z <;> split at w
    · omega
    · subst z; exact absurd (h7 l _ w) nF
    · subst w; exact absurd (h7 k _ z) nF
    · exact h4 k l a z w
  · dsimp only at w
    split at w
    · subst w; exact absurd (h6 i _ z) nF
    · exact h5 i k a z w
  · dsimp only at z
    split at z
    · exact .inr z
    · exact .inl (h7 k a z)
  · rcases z with z | z
    · exact h.live a z
    · subst z; rw [hp]; simp
  · show (μ ++ [p]).length = (st.g ++ [Cell.lst os]).length
    rw [List.length_append, List.length_append, hm] <;> rfl
end
/-- x[i] of a list of the store -/
def ixG (g : List Cell) (a b : O) : Option O := match a, b with
  | .obj k, .d (.int i) => match g[k]? with
    | some (.lst os) => atI os i
    | _ => none
  | _, _ => none
theorem atI_paired {α β : Type} {R : α → β → Prop} {vs : List α} {os : List β} {i : Int} {o : β} (h : Paired R vs os) (e : atI os i = some o) : ∃ v, atI vs i = some v ∧ R v o := by
  unfold atI at e ⊢
  rw [h.length]
  cases q : ixN os.length i with
  | none => rw [q] at e; cases e
  | some j =>
    rw [q] at e
    have e : os[j]? = some o := e
    show ∃ v, vs[j]? = some v ∧ R v o
    clear q
    induction h generalizing j with
    | nil => simp at e
    | cons a b ih =>
      cases j with
      | zero => simp at e; subst e; exact ⟨_, rfl, a⟩
      | succ j => simpa using ih j (by simpa using e) (by simpa using e)
def xIxG (i : Nat) (fb : XE) : XE := fun st => match st.loc[i]? with
  | some (some _) => bindO (fb st) fun b st2 => match st2.loc[i]? with
    | some (some a) => retO (ixG st2.g a b) st2
    | _ => .no
  | _ => .no
/-- len(x) of a list of the store -/
def lenG (g : List Cell) (a : O) : Option PyData := match a with
  | .obj k => match g[k]? with
    | some (.lst os) => some (.int os.length)
    | _ => none
  | _ => none
def xLenG (i : Nat) : XE := fun st => match st.loc[i]? with
  | some (some a) => match lenG st.g a with
    | some d => .ok (.d d) st
    | none => .no
  | _ => .no
/-- x[i] = e of a list of the store -/
def setGAt (n : Nat) (o i : O) (st : St) : Option St := match st.loc[n]?, i, isLo o with
  | some (some (.obj k)), .d (.int j), false => match st.g[k]? with
    | some (.lst os) => match ixN os.length j with
      | some j => some { st with g := st.g.set k (.lst (os.set j o)) }
      | none => none
    | _ => none
  | _, _, _ => none
where isLo : O → Bool
  | .lst _ => true
  | .tl _ _ => true
  | .dct _ => true
  | .dcl _ => true
  | _ => false
def sSetG (n : Nat) (f fi : XE) : XS := fun st => bindO (xFz f st) fun o st => if isV st.loc[n]? then bindO (fi st) fun i st => endO (setGAt n o i st) else .no
/-- the script, read -/
def scrAt (i : Nat) (st : St) : Option (List Int) := match st.loc[i]? with
  | some (some (.obj k)) => match st.g[k]? with
    | some (.scr ns) => some ns
    | _ => none
  | _ => none
def xScrNe (i : Nat) : XE := fun st => match scrAt i st with
  | some ns => if shp (.list (ns.map .int)) then .ok (.d (.bool (!PyData.eqv (.list (ns.map .int)) (.list [])))) st else .no
  | none => .no
def xScrL (i : Nat) : XE := fun st => match scrAt i st with
  | some ns => .ok (.lst (ns.map .int)) st
  | none => .no
/-- [a list, a datum], for the store -/
def xLst2 (fa fb : XE) : XE := fun st => bindO (fa st) fun o st => match o with
  | .lst ds => bindO (fb st) fun o2 st => match o2 with
    | .d y => .ok (.obj (st.g.length + 1)) { st with g := st.g ++ [.lst (ds.map .d)] ++ [.lst [.obj st.g.length, .d y]] }
    | _ => .no
  | _ => .no
section
variable {X : Cx} {W : WX} {a b c e ie : Expr} {es : List Expr} {fa fb fc f fi : XE} {ga : St → Out Bool} {pos p apos p2 : Pos} {s : Stmt} {rest body : List Stmt} {f1 f2 : XS} {σ : L2.St} {H : Hp} {st : St} {F : FP} {μ : Mu} {x : Str} {g : St → Out (List O)}
theorem se_ixG (i : Nat) (ha : PE X a (tVar i)) (hb : SE X W b fb) (hs : PlainIx b := by exact fun _ _ => rfl) : SE X W (.Subscript a b pos) (xIxG i fb) := by
  refine ⟨PE.imp (pe_ix ix_list ha hb.pe hs) fun σ H Q ⟨st, F, μ, rep, q⟩ => ?_⟩
  unfold xIxG at q
  split at q
  · rename_i o0 e0
    obtain ⟨v, h1, _⟩ := rep.slot e0
    refine ⟨v, h1, st, F, μ, rep, Aft.bind (Fv := fun _ => False) q (List.prefix_refl _) (Ext.refl fun a z => z.elim False.elim id) fun o2 st2 v2' H2 μ2 Fv2 F2 e2 m2 r2 rep2 d2 l2 x2 q2 => ?_⟩
    split at q2
    · rename_i o1 e1
      obtain ⟨v', h2, w1⟩ := rep2.slot e1
      rw [h1] at h2; cases h2
      unfold ixG at q2
      split at q2
      · rename_i k j
        split at q2
        · rename_i os eg
          cases ea : atI os j with
          | none => rw [ea] at q2; exact q2.elim
          | some o =>
            rw [ea] at q2
            cases w1 with
            | obj em =>
              obtain ⟨a', em', oc⟩ := rep2.cell eg
              rw [em] at em'; cases em'
              cases oc with
              | lst c1 c2 c3 =>
                obtain ⟨w, e3, e4⟩ := atI_paired c2 ea
                cases r2.int
                exact ⟨_, _, j, w, rfl, rfl, Rd.sq (.inl c1), e3, (Aft.fin (G := Fv2) q2 m2 rep2 x2) w H2 (fun _ => False) (fun _ _ q => q) e4 fun _ z => z.elim⟩
        · exact q2.elim
      · exact q2.elim
    · exact q2.elim
  · exact q.elim
theorem se_lenG (i : Nat) (hm : X.mg "len" = none) (ha : PE X a (tVar i)) (hg : Gl X "len" := by rfl)
    (he : starEach [a] X.env = (false, eval a X.env) :: starEach [] X.env := by rfl) (hpl : (backTo pos (starEach [] X.env)).any (·.1) = false := by rfl) : SE X W (.Call (.Name "len" p) [a] [] pos) (xLenG i) :=
  ⟨PE.imp (pe_callB call_len_seq hg hm PySem.boot_len (pa_cons ha pa_nil he) (by decide) (by decide) he hpl) fun σ H Q ⟨st, F, μ, rep, q⟩ => by
    unfold xLenG at q
    split at q
    · rename_i o e
      obtain ⟨v, h1, h2⟩ := rep.slot e
      split at q
      · rename_i d ed
        unfold lenG at ed
        split at ed
        · split at ed
          · rename_i os eg
            cases ed
            cases h2 with
            | obj em =>
              obtain ⟨a', em', oc⟩ := rep.cell eg
              rw [em] at em'; cases em'
              cases oc with
              | lst c1 c2 c3 =>
                refine ⟨_, h1, _, _, rfl, .inl (Rd.sq (.inl c1)), ?_⟩
                rw [c2.length]
                exact q.datum rep (.int _)
          · cases ed
        · cases ed
      · exact q.elim
    · exact q.elim⟩
theorem ss_setG (n : Nat) (h : SE X W e f) (ho : PE X a (tVar n)) (hi : SE X W ie fi) {tp : Pos} (hs : swapsWithSole [.Subscript a ie tp] e pos.line X.env = pure false := by rfl) (hw : swappedStores [.Subscript a ie tp] e X.env = pure none := by rfl)
    (h1 : (assignEach [.Subscript a ie tp] X.env).map (·.2) = [assign (.Subscript a ie tp) X.env] := by rfl)
    (ha : ∀ v, assign (.Subscript a ie tp) X.env v = (do
      let ov ← holding [v] (eval a X.env)
      let iv ← holding [v, ov] (eval ie X.env)
      standAt tp
      holding [v, ov, iv] (setItem ov iv v)
      release [v, ov, iv] []) := by intro _; rfl) :
    SS X W (.Assign [.Subscript a ie tp] e pos) (sSetG n f fi) := by
  refine ⟨PS.imp (ps_asg (se_fz h).pe (pg_sub ho hi.pe set_list ha) hs hw h1) fun D σ H ⟨st, F, μ, rep, q⟩ => ?_⟩
  refine ⟨st, F, μ, rep, AftS.bind q fun o st1 v H1 μ1 Fv1 F1 eo m1 r1 rep1 dj1 lv1 x1 h2 => ?_⟩
  split at h2
  · rename_i hl
    have X1 : Ext H F H1 F1 := x1.imp fun a z => .inr z
    obtain ⟨ov, g1⟩ := isV_ok rep1 hl
    refine ⟨ov, g1, st1, F1, μ1, rep1, AftS.bind2 (Fv := fun _ => False) h2 m1 (X1.imp fun a z => z.elim False.elim id) fun iv st2 iw H2 μ2 Fv2 F2 e2 m2 r2 rep2 dj2 lv2 x2 h3 => ?_⟩
    cases es : setGAt n o iv st2 with
    | none => rw [es] at h3; exact h3.elim
    | some st3 =>
      rw [es] at h3
      unfold setGAt at es
      split at es
      · rename_i k j el ef
        split at es
        · rename_i os eg
          split at es
          · rename_i j' ej
            cases es
            cases r2.int
            obtain ⟨w, g2, w1⟩ := rep2.slot el
            rw [g1] at g2; cases g2
            cases w1 with
            | obj em =>
              obtain ⟨vs, c1, c2, c3, c4⟩ := rep2.chgG eg em
              have ow : Own X.K μ2 H2 (fun _ => False) v o := by
                cases r1 with
                | d z => exact .d (z.kp x2.kp)
                | lst _ _ _ => cases ef
                | xcp z1 z2 z3 => exact (Own.xcp (F := fun _ => False) (H := H1) (K := X.K) z1 z2 z3).step m2 (fun _ z => z.elim) x2.kp
                | tl _ _ _ _ _ _ _ _ => cases ef
                | dct _ _ _ _ => cases ef
                | dcl _ _ _ _ => cases ef
                | obj z => exact (Own.obj (F := fun _ => False) (H := H1) (K := X.K) z).step m2 (fun _ z => z.elim) x2.kp
              obtain ⟨kp, c6, c7⟩ := c4 (os.set j' o) (vs.set j' v) (by
                clear eg c1 c4 h3 ej
                induction c2 generalizing j' with
                | nil => exact .nil
                | cons a b ih =>
                  cases j' with
                  | zero => exact .cons ow b
                  | succ j' => exact .cons a (ih j'))
              exact ⟨_, vs, j, j', rfl, rfl, c1, by rw [c2.length]; exact ej, h3 σ _ μ2 F2 (m1.trans m2) c6 ((X1.trans (x2.imp fun a z => .inr z)).trans c7)⟩
          · cases es
        · cases es
      · cases es
  · exact h2.elim
theorem dp_ints {K : PySem.W.Frag} {H : Hp} : ∀ ns : List Int, DpAll K H (ns.map V.int) (ns.map .int)
  | [] => .nil
  | n :: ns => .cons (.int n) (dp_ints ns)
theorem rp_ints {K : PySem.W.Frag} {H : Hp} : ∀ ns : List Int, RpL K H (ns.map V.int) (ns.map .int)
  | [] => .nil
  | n :: ns => .cons (.int n) (rp_ints ns)
theorem scr_ok (rep : Rep X.K σ μ H F st) {i : Nat} {ns : List Int} (h : scrAt i st = some ns) : ∃ a, σ[i]? = some (some (.ref a)) ∧ SqL X.K H a (ns.map V.int) := by
  unfold scrAt at h
  split at h
  · rename_i k e
    split at h
    · rename_i ns' eg
      cases h
      obtain ⟨v, h1, h2⟩ := rep.slot e
      cases h2 with
      | obj em =>
        obtain ⟨a', em', oc⟩ := rep.cell eg
        rw [em] at em'; cases em'
        cases oc with
        | scr z =>
          refine ⟨_, h1, ?_⟩
          rcases z with ⟨o, z⟩ | z
          · exact Rd.sq (.inr ⟨o, z⟩)
          · exact sqL_text z
    · cases h
  · cases h
theorem scrNe_core {i : Nat} {Q : V → Hp → Prop} (rep : Rep X.K σ μ H F st) (q : Aft X.K W σ (fun μ H Fv (v : V) o => Own X.K μ H Fv v o) (xScrNe i st) μ H F Q) : tVar i σ H fun x H1 => tE X.K W (xLst aNil) σ H1 fun y H2 => rNeD X.K x y H2 Q := by
  unfold xScrNe at q
  split at q
  · rename_i ns e
    split at q
    · rename_i sh
      obtain ⟨p, h1, h2⟩ := scr_ok rep e
      refine ⟨_, h1, st, F, μ, rep, fun v H' μ' Fv F' m ow rep' dj lv ext => ?_⟩
      have ow : Own X.K μ' H' Fv v (.lst []) := ow
      obtain ⟨q2, h3, h4⟩ := scr_ok rep' e
      rw [h1] at h3; cases h3
      exact ⟨.list (ns.map .int), .list [], .lst h4 (dp_ints ns), ow.dp rfl (by decide), sh, by decide, (Aft.fin (G := Fv) q m rep' ext).datum (.bl _)⟩
    · exact q.elim
  · exact q.elim
theorem se_scrNe (i : Nat) (hu : X.A.units + 64 < cLine) (ha : PE X a (tVar i)) {p1 : Pos} (hm : behindInMarks .NotEq (.List [] p1) = false := by rfl) : SE X W (.Compare a [.NotEq] [.List [] p1] pos) (xScrNe i) :=
  ⟨PE.imp (pe_cmpR (op_neD hu) ha (se_lst (W := W) sa_nil).pe hm) fun σ H Q ⟨st, F, μ, rep, q⟩ => scrNe_core rep q⟩
theorem st_scrNe (i : Nat) (hu : X.A.units + 64 < cLine) (ha : PE X a (tVar i)) {p1 : Pos} (hm : behindInMarks .NotEq (.List [] p1) = false := by rfl) : ST X W (.Compare a [.NotEq] [.List [] p1] pos) (tVal (xScrNe i)) :=
  ⟨PT.imp (pt_cmpR (op_neD hu) ha (se_lst (W := W) sa_nil).pe hm) fun σ H Q ⟨st, F, μ, rep, q⟩ => by
    obtain ⟨st', F', μ', rep', q'⟩ := test_core (f := xScrNe i) rep q
    exact scrNe_core rep' q'⟩
theorem se_scrL (i : Nat) (hm : X.mg "list" = none) (ha : PE X a (tVar i)) (hg : Gl X "list" := by rfl)
    (he : starEach [a] X.env = (false, eval a X.env) :: starEach [] X.env := by rfl) (hpl : (backTo pos (starEach [] X.env)).any (·.1) = false := by rfl) : SE X W (.Call (.Name "list" p) [a] [] pos) (xScrL i) :=
  ⟨PE.imp (pe_callTy call_list_of hg hm (by decide +kernel) (pa_cons ha pa_nil he) (by decide) (by decide) he hpl) fun σ H Q ⟨st, F, μ, rep, q⟩ => by
    unfold xScrL at q
    split at q
    · rename_i ns e
      obtain ⟨p, h1, h2⟩ := scr_ok rep e
      exact ⟨_, h1, _, _, rfl, .inl h2, (Aft.fin (G := fun _ => False) q (List.prefix_refl _) rep (Ext.refl fun a z => z.elim False.elim id)).list (rp_ints ns)⟩
    · exact q.elim⟩
theorem own_dats {K : PySem.W.Frag} {μ : Mu} {H : Hp} {F : FP} {vs : List V} {ds : List PyData} (h : RpL K H vs ds) : Paired (Own K μ H F) vs (ds.map .d) := by
  induction ds generalizing vs with
  | nil => cases h; exact .nil
  | cons d ds ih => cases h with | cons a b => exact .cons (.d a) (ih b)
theorem se_lst2 (ha : SE X W a fa) (hb : SE X W b fb) (h1 : starEach [b] X.env = (false, eval b X.env) :: starEach [] X.env := by rfl) (h2 : starEach [a, b] X.env = (false, eval a X.env) :: starEach [b] X.env := by rfl) : SE X W (.List [a, b] pos) (xLst2 fa fb) := by
  refine ⟨PE.imp (pe_lst (pa_cons ha.pe (pa_cons hb.pe pa_nil h1) h2)) fun σ H Q ⟨st, F, μ, rep, q⟩ => ?_⟩
  refine ⟨st, F, μ, rep, Aft.bind (Fv := fun _ => False) q (List.prefix_refl _) (Ext.refl fun a z => z.elim False.elim id) fun o1 st1 v1 H1 μ1 Fv1 F1 e1 m1 r1 rep1 d1 l1 x1 q1 => ?_⟩
  split at q1
  · rename_i ds
    refine ⟨st1, F1, μ1, rep1, Aft.bind (Fv := Fv1) q1 m1 x1 fun o2 st2 v2 H2 μ2 Fv2 F2 e2 m2 r2 rep2 d2 l2 x2 q2 => ?_⟩
    have s1 := keepF x2 d1 l1
    split at q2
    · rename_i y
      refine ⟨by rw [sizeLine_eq]; exact Nat.le_of_ble_eq_true rfl, fun p np => ?_⟩
      cases r1 with
      | @lst b xs _ hb1 hr hf =>
        have hb2 : H2 b = some (.lst xs) := (s1 b hf).trans hb1
        have nb : ¬ F2 b := fun z => by
          rcases x2.new b (.inr z) with q | q
          · rw [hb1] at q; cases q
          · exact d1 b hf q
        have g : ∀ x u, H2 x = some u → (upd H2 p (.lst [.ref b, v2])) x = some u := fun x u q => by rw [upd_ne (ne_of_none q np)]; exact q
        have kp : Kp H2 (upd H2 p (.lst [.ref b, v2])) := ⟨fun a xs q => g a _ q, fun a o u q => g a _ q⟩
        have rl := RpL.kp kp ds (RpL.kp x2.kp ds hr)
        have R1 := (rep2.grow g).pushG (g _ _ hb2) nb (own_dats rl)
        have np2 : ¬ (F2 p ∨ p = b) := fun z => by
          rcases z with z | z
          · exact rep2.live p z np
          · subst z; rw [hb2] at np; cases np
        have hl : μ2.length = st2.g.length := rep2.mu
        have R2 := R1.pushG (p := p) (vs := [.ref b, v2]) (os := [.obj st2.g.length, .d y]) upd_same np2
          (.cons (.obj (by rw [← hl]; simp)) (.cons (.d (r2.rp.kp kp)) .nil))
        refine q2 (.ref p) _ (μ2 ++ [b] ++ [p]) (fun _ => False) _ ((m1.trans m2).trans ((List.prefix_append μ2 [b]).trans (List.prefix_append _ [p]))) (.obj ?_) R2 (fun _ z => z.elim) (fun _ z => z.elim) ?_
        · rw [List.getElem?_append_right (by simp [hl])]; simp [hl]
        · have X2 : Ext H F H2 (fun a => Fv1 a ∨ F2 a) := x1.trans ((x2.frame (G := Fv1)).imp fun a z => by rcases z with z | z; exact .inl z; exact .inr (.inr z))
          refine X2.grow g fun a z => ?_
          rcases z with z | (z | z) | z
          · exact z.elim
          · exact .inl (.inr z)
          · exact .inl (.inl (z ▸ hf))
          · exact .inr (z ▸ np)
    · exact q2.elim
  · exact q1.elim
end
end Tr
namespace Tr
open PySem PySem.Spec PyProof.Rows L2
theorem hu1 {A : Around} {k : Nat} (r : Room k A) : A.units + 1 < cLine := by have := r.un; omega
/-! ### flat data, x.index(e) -/
def flatD : PyData → Bool
  | .none | .bool _ | .int _ | .str _ => true
  | _ => false
def vOf : PyData → V
  | .bool b => .bl b
  | .int i => .int i
  | .str x => .str x
  | _ => .non
theorem rp_flat {K : PySem.W.Frag} {H : Hp} {v : V} {d : PyData} (h : Rp K H v d) (f : flatD d = true) : v = vOf d ∧ flatV v = true := by
  cases h with
  | non => exact ⟨rfl, rfl⟩
  | bl b => exact ⟨rfl, rfl⟩
  | int i => exact ⟨rfl, rfl⟩
  | str x => exact ⟨rfl, rfl⟩
  | lst _ _ => cases f
  | dct _ _ _ => cases f
  | tup _ _ => cases f
theorem eqV_of {a b : PyData} (ha : flatD a = true) (hb : flatD b = true) : eqV (vOf a) (vOf b) = PyData.eqv a b := by
  cases a <;> cases b <;> simp_all [flatD, vOf, eqV, PyData.eqv]
def idxD : List PyData → PyData → Option Nat
  | [], _ => none
  | z :: r, d => if PyData.eqv z d then some 0 else (idxD r d).map (· + 1)
theorem rpl_flat {K : PySem.W.Frag} {H : Hp} : ∀ {vs : List V} {ds : List PyData}, RpL K H vs ds → ds.all flatD = true → vs = ds.map vOf ∧ vs.all flatV = true
  | _, _, .nil, _ => ⟨rfl, rfl⟩
  | _, _, .cons a b, h => by
    obtain ⟨h1, h2⟩ := Bool.and_eq_true_iff.mp (show (_ && _) = true from h)
    obtain ⟨e1, e2⟩ := rp_flat a h1
    obtain ⟨e3, e4⟩ := rpl_flat b h2
    exact ⟨by rw [e1, e3]; rfl, by rw [List.all_cons, e2, e4]; rfl⟩
theorem idx_ok : ∀ {ds : List PyData} {d : PyData} {j : Nat}, ds.all flatD = true → flatD d = true → idxD ds d = some j → ∃ z, (ds.map vOf)[j]? = some z ∧ eqV z (vOf d) = true ∧ ∀ (m : Nat) (z' : V), m < j → (ds.map vOf)[m]? = some z' → eqV z' (vOf d) = false
  | [], _, _, _, _, h => by cases h
  | z :: r, d, j, ha, hd, h => by
    obtain ⟨h1, h2⟩ := Bool.and_eq_true_iff.mp (show (_ && _) = true from ha)
    unfold idxD at h
    by_cases c : PyData.eqv z d = true
    · rw [if_pos c] at h
      cases h
      exact ⟨vOf z, rfl, by rw [eqV_of h1 hd, c], fun m _ hm => absurd hm (Nat.not_lt_zero _)⟩
    · rw [if_neg c] at h
      obtain ⟨j', e, rfl⟩ := Option.map_eq_some_iff.mp h
      obtain ⟨y, q1, q2, q3⟩ := idx_ok h2 hd e
      refine ⟨y, by simpa using q1, q2, fun m z' hm hz => ?_⟩
      cases m with
      | zero =>
        have : z' = vOf z := by simpa using hz.symm
        rw [this, eqV_of h1 hd]; exact Bool.eq_false_iff.mpr c
      | succ m => exact q3 m z' (by omega) (by simpa using hz)
@[simp] def idxO (a b : O) : Option O := match listO a, dataO b with
  | some ds, some d => if ds.all flatD && flatD d then (idxD ds d).map fun j => .d (.int (j : Nat)) else none
  | _, _ => none
/-- x.index(e), x a name -/
@[simp] def xIndex (i : Nat) (f : XE) : XE := fun st => match st.loc[i]? with
  | some (some a) => match listO a with
    | some _ => bindO (f st) fun b st2 => match st2.loc[i]? with
      | some (some a) => retO (idxO a b) st2
      | _ => .no
    | none => .no
  | _ => .no
/-! ### {k: e, ..}[x], the keys texts -/
def xPs : List (Str × XE) → St → Out (List (Str × PyData))
  | [], st => .ok [] st
  | (k, f) :: r, st => bindO (f st) fun o st => match o with
    | .d d => bindO (xPs r st) fun l st => .ok ((k, d) :: l) st
    | _ => .no
def lkD : List (Str × PyData) → Str → Option PyData
  | [], _ => none
  | (k, d) :: r, x => if k = x then some d else lkD r x
def xDSub (ps : List (Str × XE)) (fk : XE) : XE := fun st => bindO (xPs ps st) fun kvs st => bindO (fk st) fun o st => match o with
  | .d (.str x) => match lkD kvs x with
    | some d => .ok (.d d) st
    | none => .no
  | _ => .no
theorem merge_new : ∀ (more acc : List (Key × V)), (more.map (·.1)).Nodup → (∀ p ∈ more, valV acc p.1 = none) → mergeK acc more = acc ++ more
  | [], acc, _, _ => by simp [mergeK]
  | p :: r, acc, nd, h => by
    have nd2 : p.1 ∉ r.map (·.1) ∧ (r.map (·.1)).Nodup := by simpa using nd
    show mergeK (putK acc p.1 p.2) r = _
    have h0 := h p List.mem_cons_self
    rw [putK_new p.2 h0, merge_new r (acc ++ [(p.1, p.2)]) nd2.2 fun q hq => by
      rw [valV_snoc p.1 q.1 p.2 acc h0, if_neg (show ¬ q.1 = p.1 from fun e => nd2.1 (e ▸ List.mem_map.mpr ⟨q, hq, rfl⟩))]
      exact h q (List.mem_cons_of_mem _ hq)]
    simp
abbrev PR (K : PySem.W.Frag) (H : Hp) : List (V × V) → List (Str × PyData) → Prop := Paired fun v k => v.1 = .str k.1 ∧ Rp K H v.2 k.2
theorem PR.kp {K : PySem.W.Frag} {H H' : Hp} {vs : List (V × V)} {ks : List (Str × PyData)} (k : Kp H H') (h : PR K H vs ks) : PR K H' vs ks := by
  induction h with
  | nil => exact .nil
  | cons a b ih => exact .cons ⟨a.1, a.2.kp k⟩ ih
theorem xPs_keys : ∀ {ps : List (Str × XE)} {st st' : St} {kvs : List (Str × PyData)}, xPs ps st = .ok kvs st' → kvs.map (·.1) = ps.map (·.1)
  | [], st, st', kvs, h => by cases h; rfl
  | (k, f) :: r, st, st', kvs, h => by
    unfold xPs at h
    cases e : f st with
    | ok o st1 =>
      rw [e] at h
      cases o with
      | d d =>
        have h : bindO (xPs r st1) (fun l st => .ok ((k, d) :: l) st) = .ok kvs st' := h
        cases e2 : xPs r st1 with
        | ok l st2 =>
          rw [e2] at h
          cases h
          show k :: _ = k :: _
          rw [xPs_keys e2]
        | exc c st2 => rw [e2] at h; cases h
        | no => rw [e2] at h; cases h
      | lst _ => cases h
      | obj _ => cases h
      | xcp _ => cases h
      | tl _ _ => cases h
      | dct _ => cases h
      | dcl _ => cases h
    | exc c st1 => rw [e] at h; cases h
    | no => rw [e] at h; cases h
section
variable {X : Cx} {W : WX} {a b c e ie : Expr} {es : List Expr} {fa fb fc f fk : XE} {ga : St → Out Bool} {pos p apos p2 cpos : Pos} {σ : L2.St} {H : Hp} {st : St} {F : FP} {μ : Mu} {x : Str} {g : St → Out (List O)}
theorem se_index (i : Nat) (ho : PE X a (tVar i)) (h : SE X W e f)
    (hbase : attributeBase a "index" X.env (eval a X.env) = eval a X.env := by rfl)
    (hfew : ((backTo cpos (starEach [e] X.env)).all (fun x => !x.1) && (backToKw cpos (keywordEach [] X.env)).all (fun x => x.1.isSome)
      && decide ([e].length + ([] : List Keyword).length + (if ([] : List Keyword).isEmpty then 0 else 1) < 30)) = true := by rfl)
    (hline : (apos.endLine == cpos.line) = true := by rfl) (hs1 : starEach [e] X.env = (false, eval e X.env) :: starEach [] X.env := by rfl) (hplain : (backTo cpos (starEach [] X.env)).any (·.1) = false := by rfl) :
    SE X W (.Call (.Attribute a "index" apos) [e] [] cpos) (xIndex i f) := by
  refine ⟨PE.imp (pe_bm PySem.F.plainAttrs_list PySem.F.slot_list_index PySem.F.type_list_index mt_index ho (sa_cons h sa_nil hs1).pa hbase hfew hline hs1 hplain) fun σ H Q ⟨st, F, μ, rep, q⟩ => ?_⟩
  unfold xIndex at q
  split at q
  · rename_i o0 e0
    split at q
    · rename_i ds0 ed0
      obtain ⟨v, h1, w0⟩ := rep.slot e0
      obtain ⟨p0, xs0, rfl, rd0, _⟩ := w0.list ed0
      refine ⟨_, h1, .inl ⟨rfl, xs0, Rd.sq rd0⟩, ?_⟩
      have q' : Aft X.K W σ (fun μ H Fv (v : V) o => Own X.K μ H Fv v o) (bindO (aCons f aNil st) fun os st2 => match st2.loc[i]?, os with
        | some (some a), [b] => retO (idxO a b) st2
        | _, _ => .no) μ H F Q := by
        unfold aCons aNil
        cases ef : f st with
        | ok b st2 =>
          rw [ef] at q
          have q : Aft X.K W σ (fun μ H Fv (v : V) o => Own X.K μ H Fv v o) (match st2.loc[i]? with
            | some (some a) => retO (idxO a b) st2
            | _ => .no) μ H F Q := q
          cases hb : isTl b with
          | true =>
            cases b with
            | tl xs ys =>
              cases el : st2.loc[i]? with
              | none => rw [el] at q; exact q.elim
              | some o =>
                cases o with
                | none => rw [el] at q; exact q.elim
                | some a =>
                  rw [el] at q
                  have eb : idxO a (.tl xs ys) = none := by
                    unfold idxO
                    cases listO a <;> rfl
                  have q : Aft X.K W σ (fun μ H Fv (v : V) o => Own X.K μ H Fv v o) (retO (idxO a (.tl xs ys)) st2) μ H F Q := q
                  rw [eb] at q
                  exact q.elim
            | _ => cases hb
          | false =>
          show Aft X.K W σ (fun μ H Fv (v : V) o => Own X.K μ H Fv v o) (bindO (if isTl b then .no else .ok [frz b] st2) fun os st2 => match st2.loc[i]?, os with
            | some (some a), [b] => retO (idxO a b) st2
            | _, _ => .no) μ H F Q
          rw [hb]
          show Aft X.K W σ (fun μ H Fv (v : V) o => Own X.K μ H Fv v o) (match st2.loc[i]?, [frz b] with
            | some (some a), [b] => retO (idxO a b) st2
            | _, _ => .no) μ H F Q
          cases el : st2.loc[i]? with
          | none => rw [el] at q; exact q.elim
          | some o =>
            cases o with
            | none => rw [el] at q; exact q.elim
            | some a =>
              rw [el] at q
              have eb : idxO a (frz b) = idxO a b := by
                unfold idxO
                cases b <;> first
                  | rfl
                  | (cases listO a <;> simp [flatD])
              show Aft X.K W σ (fun μ H Fv (v : V) o => Own X.K μ H Fv v o) (retO (idxO a (frz b)) st2) μ H F Q
              rw [eb]
              exact q
        | exc c st2 => rw [ef] at q; exact q
        | no => rw [ef] at q; exact q.elim
      refine ⟨st, F, μ, rep, Aft.bind (Fv := fun _ => False) q' (List.prefix_refl _) (Ext.refl fun a z => z.elim False.elim id) fun os st2 vs H2 μ2 Fv2 F2 e2 m2 r2 rep2 d2 l2 x2 q2 => ?_⟩
      split at q2
      · rename_i a1 b1 e1
        obtain ⟨v', h2, w1⟩ := rep2.slot e1
        rw [h1] at h2; cases h2
        unfold idxO at q2
        split at q2
        · rename_i ds d el ed
          split at q2
          · rename_i hf
            obtain ⟨hf1, hf2⟩ := Bool.and_eq_true_iff.mp hf
            cases ei : idxD ds d with
            | none => rw [ei] at q2; exact q2.elim
            | some j =>
              rw [ei] at q2
              obtain ⟨p1, xs1, ep, rd1, rl⟩ := w1.list el
              cases ep
              cases r2 with
              | @cons y _ _ _ r3 r4 =>
                cases r4
                have rp : Rp X.K H2 y d := by
                  cases r3 with
                  | d z => cases ed; exact z
                  | lst _ _ z => exact z.elim
                  | obj _ => cases ed
                  | xcp _ _ _ => cases ed
                  | tl _ _ _ _ _ _ _ _ => cases ed
                  | dct _ _ _ _ => cases ed
                  | dcl _ _ _ _ => cases ed
                obtain ⟨q3, q4⟩ := rp_flat rp hf2
                obtain ⟨q5, q6⟩ := rpl_flat rl hf1
                obtain ⟨z, q7, q8, q9⟩ := idx_ok hf1 hf2 ei
                refine ⟨_, xs1, y, j, z, rfl, rfl, Rd.sq rd1, q4, q6, by rw [q5]; exact q7, by rw [q3]; exact q8, fun m z' hm hz => ?_, (Aft.fin (G := Fv2) q2 m2 rep2 x2).datum (.int _)⟩
                rw [q3]
                rw [q5] at hz
                exact q9 m z' hm hz
          · exact q2.elim
        · exact q2.elim
      · exact q2.elim
    · exact q.elim
  · exact q.elim
/-- the pairs of a display -/
structure SDs (X : Cx) (W : WX) (keys : List (Option Expr)) (vals : List Expr) (ps : List (Str × XE)) : Prop where
  pps : ∀ pos, PPs X pos keys vals (ps.map fun q => (tE X.K W (xC (.str q.1)), tE X.K W q.2))
theorem sds_nil : SDs X W [] [] [] := ⟨fun pos => pps_nil⟩
theorem sds_cons {k : Str} {j : Nat} {ks : List (Option Expr)} {vs : List Expr} {v : Expr} {ps : List (Str × XE)} (hv : SE X W v f) (hr : SDs X W ks vs ps) : SDs X W (some (.Constant (.str k) j p) :: ks) (v :: vs) ((k, f) :: ps) :=
  ⟨fun pos => pps_cons (se_str (W := W)).pe hv.pe (hr.pps pos)⟩
theorem pairs_core : ∀ (ps : List (Str × XE)) {st : St} {μ : Mu} {H : Hp} {F : FP} {Q : List (V × V) → Hp → Prop}, Rep X.K σ μ H F st → Aft X.K W σ (fun _ H _ (vs : List (V × V)) kvs => PR X.K H vs kvs) (xPs ps st) μ H F Q →
    tPairs (ps.map fun q => (tE X.K W (xC (.str q.1)), tE X.K W q.2)) σ H Q
  | [], st, μ, H, F, Q, rep, q => q [] H μ (fun _ => False) F (List.prefix_refl _) .nil rep (fun _ z => z.elim) (fun _ z => z.elim) (Ext.refl fun a z => z.elim False.elim id)
  | (k, f) :: r, st, μ, H, F, Q, rep, q => by
    refine ⟨st, F, μ, rep, fun v0 H0 μ0 Fv0 F0 m0 ow0 rep0 dj0 lv0 x0 => ?_⟩
    have ow0 : Own X.K μ0 H0 Fv0 v0 (.d (.str k)) := ow0
    unfold xPs at q
    refine ⟨st, F0, μ0, rep0, Aft.bind (Fv := Fv0) q m0 x0 fun o1 st1 v1 H1 μ1 Fv1 F1 e1 m1 r1 rep1 d1 l1 x1 q1 => ?_⟩
    split at q1
    · rename_i d
      have x01 : Ext H F H1 (fun a => Fv1 a ∨ F1 a) := (x0.trans (x1.frame (G := Fv0))).imp fun a z => .inr z
      refine pairs_core r rep1 (Aft.bind (Fv := Fv1) q1 (m0.trans m1) x01 fun l st2 vs H2 μ2 Fv2 F2 e2 m2 r2 rep2 d2 l2 x2 q2 => ?_)
      refine q2 ((v0, v1) :: vs) H2 μ2 (fun _ => False) F2 ((m0.trans m1).trans m2) (.cons ⟨ow0.str, r1.rp.kp x2.kp⟩ r2) rep2 (fun _ z => z.elim) (fun _ z => z.elim) ?_
      exact (x01.trans (x2.frame (G := Fv1))).imp fun a z => z.elim False.elim fun z => .inr (.inr z)
    · exact q1.elim
theorem lk_ok {K : PySem.W.Frag} {H : Hp} {vs : List (V × V)} {ks : List (Str × PyData)} (h : PR K H vs ks) : ∃ kvs : List (Key × V), vs = kvs.map (fun kv => (kV kv.1, kv.2)) ∧ kvs.map (·.1) = ks.map (fun k => .inr k.1) ∧ ∀ x d, lkD ks x = some d → ∃ v, valV kvs (.inr x) = some v ∧ Rp K H v d := by
  induction h with
  | nil => exact ⟨[], rfl, rfl, fun x d e => by cases e⟩
  | @cons v k _ _ a b ih =>
    obtain ⟨kvs, e1, e2, e3⟩ := ih
    obtain ⟨v1, v2⟩ := v
    obtain ⟨k1, k2⟩ := k
    obtain ⟨a1, a2⟩ := a
    have a1 : v1 = .str k1 := a1
    refine ⟨(.inr k1, v2) :: kvs, by rw [e1, a1]; rfl, by rw [List.map_cons, e2]; rfl, fun x d e => ?_⟩
    unfold lkD at e
    by_cases c : k1 = x
    · rw [if_pos c] at e
      cases e
      exact ⟨v2, valV_pos (by rw [c]), a2⟩
    · rw [if_neg c] at e
      obtain ⟨v, q1, q2⟩ := e3 x d e
      exact ⟨v, by rw [valV_neg (by intro z; exact c (Sum.inr.inj z))]; exact q1, q2⟩
theorem se_dsub {keys : List (Option Expr)} {vals : List Expr} {ps : List (Str × XE)} (hu : X.A.units + 1 < cLine) (h : SDs X W keys vals ps) (hk : SE X W ie fk) (hnd : (ps.map (·.1)).Nodup) (hall : keys.all (·.isSome) = true := by rfl) (hl : keys.length = vals.length := by rfl) (h0 : keys ≠ [] := by simp)
    (h15 : keys.length ≤ 15 := by decide) (hp : ps.length ≤ 15 := by decide) (hs : NoSl ie := by exact fun _ _ => rfl) : SE X W (.Subscript (.Dict keys vals p) ie pos) (xDSub ps fk) := by
  refine ⟨PE.imp (pe_dget hu (pe_disp (h.pps _) hall hl h0 h15) hk.pe hs) fun σ H Q ⟨st, F, μ, rep, q⟩ => ?_⟩
  intro p np
  have g0 : ∀ b u, H b = some u → (upd H p (.dK [])) b = some u := fun b u q => by rw [upd_ne (ne_of_none q np)]; exact q
  have rep0 := rep.grow g0
  have nF : ¬ F p := fun z => rep.live p z np
  have X0 : Ext H F (upd H p (.dK [])) (fun a => a = p ∨ F a) := (Ext.refl (F' := F) fun _ z => z).grow g0 fun a z => z.elim (fun z => .inr (z ▸ np)) .inl
  unfold xDSub at q
  refine pairs_core ps rep0 (Aft.bind (Fv := fun a => a = p) q (List.prefix_refl _) X0 fun kvs st1 vs H1 μ1 Fv1 F1 e1 m1 r1 rep1 d1 l1 x1 q1 => ?_)
  have hp1 : H1 p = some (.dK []) := x1.out p _ upd_same nF
  have nF1 : ¬ F1 p := fun z => by
    rcases x1.new p (.inr z) with w | w
    · rw [upd_same] at w; cases w
    · exact nF w
  obtain ⟨kv, k1, k2, k3⟩ := lk_ok r1
  have hks := xPs_keys e1
  have nd : (kv.map (·.1)).Nodup := by
    rw [k2]
    have : kvs.map (fun k => (Sum.inr k.1 : Key)) = (ps.map (·.1)).map Sum.inr := by rw [← hks, List.map_map]; rfl
    rw [this]
    exact hnd.map (f := Sum.inr) fun a b n e => n (Sum.inr.inj e)
  have mk : mergeK [] kv = kv := by rw [merge_new kv [] nd fun _ _ => rfl]; rfl
  have lk : kv.length ≤ 15 := by
    have a1 := congrArg List.length k2
    have a2 := congrArg List.length hks
    simp at a1 a2
    omega
  refine ⟨hp1, kv, k1, lk, ?_⟩
  rw [mk]
  have ou : ∀ b, b ≠ p → (upd H1 p (.dK kv)) b = H1 b := fun b nb => upd_ne nb
  have kp : Kp H1 (upd H1 p (.dK kv)) := ⟨fun a xs q => by rw [ou a fun z => by rw [z, hp1] at q; cases q]; exact q, fun a o u q => by rw [ou a fun z => by rw [z, hp1] at q; cases q]; exact q⟩
  have rep1' := rep1.step (fun a z => ou a fun w => nF1 (w ▸ z)) kp
  have X1 : Ext H F (upd H1 p (.dK kv)) (fun a => a = p ∨ F1 a) := by
    have X1 := X0.trans (x1.frame (G := fun a => a = p))
    refine X1.trans ⟨fun b u q n => ?_, kp, fun a z => ?_⟩
    · rw [ou b fun w => n (.inl w)]; exact q
    · rcases z with z | z
      · exact .inr (.inl z)
      · exact .inr (.inr (.inr z))
  refine ⟨st1, F1, μ1, rep1', Aft.bind (Fv := fun a => a = p) q1 m1 X1 fun o st2 v H2 μ2 Fv2 F2 e2 m2 r2 rep2 d2 l2 x2 q2 => ?_⟩
  split at q2
  · rename_i y
    split at q2
    · rename_i d ed
      have hp2 : H2 p = some (.dK kv) := x2.out p _ upd_same nF1
      obtain ⟨v', w1, w2⟩ := k3 y d ed
      have ev := r2.str
      subst ev
      refine ⟨p, v', rfl, ?_, ?_⟩
      · rw [← w1]
        exact .inl ⟨kv, .inr y, .inl hp2, rfl, rfl⟩
      · exact (Aft.fin (G := fun a => a = p ∨ Fv2 a) q2 (m1.trans m2) rep2 ((X1.trans (x2.frame (G := fun a => a = p))).imp fun a z => by
          rcases z with (z | z) | z
          · exact .inl z
          · exact .inr (.inl z)
          · exact .inr (.inr z))).datum ((w2.kp kp).kp x2.kp)
    · exact q2.elim
  · exact q2.elim
end
end Tr
namespace Tr
open PySem PySem.Spec PyProof.Rows L2
/-! ### a caught exception, kept -/
section
variable {X : Cx} {pins : List (Addr × Obj)} {σ : L2.St} {H : Hp} {s : Shared}
abbrev excH (oe : Obj) : HO := .frz oe (.ext fun _ => True)
/-- an object that is there is tracked from now on -/
theorem adopt (I : Inv X pins σ H s) {a : Addr} {oe : Obj} (ha : s.heap.get? a = some oe) (na : H a = none) (h0 : X.s_0.heap.get? a = none) (nL : a ≠ X.env.locals) (hc : ∀ v, oe.data ≠ .cell v) (hp : ∀ p ∈ X.pn ++ pins, p.1 ≠ a) :
    Inv X pins σ (upd H a (excH oe)) s where
  ok := I.ok
  os := I.os
  bare := I.bare
  base := {
    keep := I.base.keep
    slot := I.base.slot
    free := fun b o q n x => by
      rw [upd_ne fun z => by rw [z, h0] at q; cases q]
      exact I.base.free b o q n x
    there := I.base.there
    tups := fun b xs q => by
      have := I.base.tups b xs q
      rw [upd_ne (ne_of_none this na)]; exact this
    frzs := fun b o u q => by
      have := I.base.frzs b o u q
      rw [upd_ne (ne_of_none this na)]; exact this
    tbls := fun b ps q => by
      obtain ⟨more, e⟩ := I.base.tbls b ps q
      exact ⟨more, by rw [upd_ne (ne_of_none e na)]; exact e⟩ }
  loc := I.loc
  cell := I.cell
  free := by rw [upd_ne (Ne.symm nL)]; exact I.free
  freeC := fun x c e => by
    have n : c ≠ a := fun z => by
      subst z
      obtain ⟨v, q⟩ := I.cell x c e
      obtain ⟨oc, q1, q2⟩ := q
      rw [ha] at q1
      cases q1
      exact hc _ q2
    rw [upd_ne n]; exact I.freeC x c e
  pin := fun p q => by
    obtain ⟨e1, e2, e3, e4, e5⟩ := I.pin p q
    exact ⟨e1, by rw [upd_ne (hp p q)]; exact e2, e3, e4, e5⟩
  hok := I.hok.laidN (fun _ _ q => q) na ⟨ha, trivial, ⟨oe, ha⟩, fun _ _ _ _ => trivial⟩
  len := I.len
end
/-- try: body / except C as n: y = n -/
def wKeep (K : PySem.W.Frag) (c : Value) (i j : Nat) (Wout : WX) (D : Ends) : WX := fun cls d σ H => ∃ b, PySem.W.exmOne K cls c = some b ∧
  (b = true → ∀ (a : Addr) (oe : Obj), H a = none → Zc cls d oe → (∃ vs, oe.data = .fields vs) → D.nx (((σ.set i (some (.ref a))).set j (some (.ref a))).set i none) (upd H a (excH oe))) ∧
  (b = false → Wout cls d σ H)
section
variable {X : Cx} {x n y : Str} {c : Value} {i j : Nat} {body : List Stmt} {np py pn spos pos pos' : Pos} {tb : WX → TS} {Wout : WX}
theorem ps_try_keep (hx : X.ex = []) (hs : X.stack = X.env :: X.outer) (hf : X.env.frame = some X.env.locals) (hN : X.N.Nodup) (hi : X.N[i]? = some n) (hln : X.env.kindOf n = some .local) (hj : X.N[j]? = some y) (hly : X.env.kindOf y = some .local)
    (hvn : ∀ (a : Addr) (q : List (Addr × Obj)), PE (X.suite a q) (.Name n pn) (tVar i)) (hsw : swapsWith (.Name n pn) (some (.Name y py)) spos.line X.env = pure false) (hc : Names X x c) (tk : Takes X Wout)
    (hb : ∀ (W : WX) (q : List (Addr × Obj)) (xe : Value → Shared → Prop), Takes (X.tr q xe) W → PassesOwn (model X.prog X.w) X.A X.env xe → PSs (X.tr q xe) body (tb W)) :
    PS X (.Try body [.ExceptHandler (some (.Name x np)) (some n) [.Assign [.Name y py] (.Name n pn) spos] pos'] [] [] pos) (fun D σ H => tb (wKeep X.K c i j Wout D) D σ H) := by
  refine ⟨fun pins s σ H D I h => ?_⟩
  have ok := I.ok
  have hfr : X.A.frames = some (X.env :: X.outer) := by rw [ok.frames, hs]
  refine wpAny_Try_except ?_
  refine wpAny_mono ((hb (wKeep X.K c i j Wout D) (X.pn ++ pins) _ (fun u s' xx => ?caught) PassesOwn.looking).run [] s σ H D (I.toTry _) h) (fun f s1 hsp => ?through) (fun e s1 he => he)
  case through =>
    cases f with
    | next =>
      obtain ⟨σ1, H1, J, q⟩ := hsp
      exact wpAny_execs_nil ⟨σ1, H1, J.ofTry ok, q⟩
    | brk =>
      obtain ⟨σ1, H1, J, q⟩ := hsp
      exact ⟨σ1, H1, J.ofTry ok, q⟩
    | cont =>
      obtain ⟨σ1, H1, J, q⟩ := hsp
      exact ⟨σ1, H1, J.ofTry ok, q⟩
    | ret u =>
      obtain ⟨v, σ1, H1, J, r, q⟩ := hsp
      exact ⟨v, σ1, H1, J.ofTry ok, r, q⟩
  case caught =>
    obtain ⟨a, B, sI, pins1, σ1, H1, cls, d, rfl, J0, nb, up, sky, na, os, ag, b, hb1, yes, no⟩ := xx
    have J : Inv X pins σ1 H1 sI := J0.ofTry ok
    have sky1 : Sky B (X.env :: X.outer) a (Zc cls d) X.env.locals s'.heap := by rw [← hs]; exact sky
    show wpAny (model X.prog X.w) X.A (noteFrame (.ref a) X.env) _ _ _
    refine Sky.land Zc.steady hfr hf sky1 fun h3 fl up3 => ?_
    have J3 : Inv X pins σ1 H1 { s' with heap := h3 } := J.landed nb fl.1 (up.trans up3) os ag
    obtain ⟨oe, vs, he, hz, hd⟩ := fl.there
    have apart : ∀ {h : Heap} {o : Obj} {us : Array Value}, h.FunFrames B (X.env :: X.outer) → h.get? a = some o → o.data = .fields us → a ∉ frs (X.env :: X.outer) := fun ff e dd hm => by
      obtain ⟨_, o2, e2, nf⟩ := ff.mem hm
      rw [e] at e2
      cases e2
      exact nf _ dd
    have nfr := apart fl.2.2.1 he hd
    have nL : a ≠ X.env.locals := fun z => nfr (List.mem_filterMap.mpr ⟨X.env, List.mem_cons_self, by rw [hf, z]⟩)
    have nF : a ∉ X.fs := fun hm => by
      obtain ⟨e, m, q⟩ := List.mem_filterMap.mp hm
      exact nfr (List.mem_filterMap.mpr ⟨e, List.mem_cons_of_mem _ m, q⟩)
    have noI : sI.heap.get? a = none := by
      cases q : sI.heap.get? a with
      | none => rfl
      | some o =>
        have := nb a o q (by rw [hs]; exact nfr)
        rw [fl.2.1] at this
        cases this
    have h0 : X.s_0.heap.get? a = none := by
      cases q : X.s_0.heap.get? a with
      | none => rfl
      | some o =>
        obtain ⟨o1, q1⟩ := J.base.there a o q (by rw [hx]; simp)
        rw [noI] at q1
        cases q1
    have np1 : ∀ p ∈ X.pn ++ pins, p.1 ≠ a := fun p m z => by
      have := (J.pin p m).1
      rw [z, noI] at this
      cases this
    have S3 := J3.suite he hd na nL nF
    refine wpAny_handleBy_cons (codeAny_handlers_test ?_) (by intro q; cases q)
    have LT : PySem.W.Looks (model X.prog X.w) h3 (typeOf (.ref a)) cls := fun A Q E s k q => wpAny_typeOf_ref (k _ _ he) (by rw [hz.1]; exact q)
    have LM := PySem.W.exm_one (M := model X.prog X.w) J3.kIn LT hb1
    have name : ∀ {Q : Value → Shared → Prop} {E : Value → Shared → Prop}, Q c { s' with heap := h3 } → wpAny (model X.prog X.w) (X.A.mark (some (.ref a))) (eval (.Name x np) X.env) Q E { s' with heap := h3 } := fun q => by
      obtain ⟨hg, hdbg, hm | ⟨hm, hv, hnn⟩⟩ := hc
      · exact ld_glob (X := X.suite a ((a, oe) :: (X.pn ++ pins))) S3 hg hm q hdbg
      · exact ld_blt (X := X.suite a ((a, oe) :: (X.pn ++ pins))) S3 hg hm hv q hnn hdbg
    refine name (LM.here ?_)
    cases b with
    | true =>
      refine codeAny_handlers_suite_as ?_
      refine HandSPX.lands_againZ fl fun h4 fl4 up4 => ?_
      have J4 : Inv X pins σ1 H1 { s' with heap := h4 } := J.landed nb fl4.1 ((up.trans up3).trans up4) os ag
      obtain ⟨oe4, vs4, he4, hz4, hd4⟩ := fl4.there
      have S4 := J4.suite he4 hd4 na nL nF
      have hlocn : Loc X.env.scope n := .inl hln
      have hlocy : Loc X.env.scope y := .inl hly
      refine store_ok (X := X.suite a ((a, oe4) :: (X.pn ++ pins))) (v := .ref a) S4 hN hi hlocn rfl (fun s5 S5 => ?_) (.inr hln)
      have sets : PS (X.suite a ((a, oe4) :: (X.pn ++ pins))) (.Assign [.Name y py] (.Name n pn) spos) (tAsg (tVar i) (gName j)) := ps_set hN hj hlocy (hvn a _) hsw (.inr hly)
      have li : i < σ1.length := by rw [J4.len]; exact (List.getElem?_eq_some_iff.mp hi).1
      refine wpAny_mono ((pss_one sets).run [] s5 _ H1 { nx := fun σ6 H6 => σ6 = (σ1.set i (some (.ref a))).set j (some (.ref a)) ∧ H6 = H1, rt := fun _ _ => False } S5 ⟨.ref a, by rw [List.getElem?_set_self li], rfl, rfl⟩) (fun f s6 hsp => ?_) (fun _ _ z => False.elim z)
      cases f with
      | next =>
        obtain ⟨σ6, H6, S6, rfl, rfl⟩ := hsp
        have pinned := S6.pin (a, oe4) (List.mem_append_left _ List.mem_cons_self)
        have J6 := adopt (S6.unsuite ok) pinned.1 na h0 nL pinned.2.2.2.2 np1
        exact gone_ok J6 hN hi hln fun s7 J7 => ⟨_, _, J7, yes rfl a oe4 na hz4 ⟨_, hd4⟩⟩
      | brk =>
        obtain ⟨_, _, _, z⟩ := hsp
        exact z.elim
      | cont =>
        obtain ⟨_, _, _, z⟩ := hsp
        exact z.elim
      | ret u =>
        obtain ⟨_, _, _, _, _, z⟩ := hsp
        exact z.elim
    | false =>
      show wpAny _ X.A (handleBy (.ref a) X.env []) _ _ _
      refine wpAny_handleBy_nil ?_
      obtain ⟨k1, k2, k3, oe5, vs5, T, oT, ts5, he5, hz5, hd5, h15, hr5⟩ := id fl
      unfold PySem.passOn
      refine wpAny_bind (wpAny_field he5 hd5 h15 ?_)
      rw [if_neg (show ¬ ((Value.ref T == Value.none) = true) from by simp)]
      have away : wpAny (model X.prog X.w) X.A (setFlight (.ref a) X.env.frame) (fun _ s4 => wpAny (model X.prog X.w) X.A (throw (.ref a) : Sem Flow) (L2.SP X pins D) X.xe s4) X.xe { s' with heap := h3 } := by
        rw [hf]
        refine HandSPX.setFlight_upZ fl fun h4 hh4 up4 => wpAny_throw (tk _ _ ?_)
        exact ⟨a, B, sI, pins, σ1, H1, cls, d, rfl, J, nb, (up.trans up3).trans up4, .inr (.inr (by rw [hs]; exact hh4)), na, os, ag, no rfl⟩
      first
        | exact wpAny_bind (wpAny_pure (wpAny_bind away))
        | exact wpAny_bind away
end
/-! ### the statement -/
def sTry (i j : Nat) (sub : List (Str × Bool)) (b : XS) : XS := fun st => match b st with
  | .ok fl st => .ok fl st
  | .no => .no
  | .exc c st => match sub.lookup c with
    | some true => if i < st.loc.length ∧ j < st.loc.length then .ok .next { st with loc := ((st.loc.set i (some (.xcp c))).set j (some (.xcp c))).set i none } else .no
    | some false => .exc c st
    | none => .no
/-- what the clause's class says of the classes of the text -/
def SubOk (K : PySem.W.Frag) (C : Str) (sub : List (Str × Bool)) : Prop := ∀ c b, sub.lookup c = some b → PySem.W.exmOne K (.ref (He.ga K c)) (.ref (He.ga K C)) = some b
theorem mem_of_lookup {α β : Type} [BEq α] [LawfulBEq α] {a : α} {b : β} : ∀ {l : List (α × β)}, l.lookup a = some b → (a, b) ∈ l
  | [], h => by cases h
  | (k, v) :: r, h => by
    rw [List.lookup_cons] at h
    cases e : a == k with
    | true => rw [e] at h; cases h; rw [eq_of_beq e]; exact List.mem_cons_self
    | false => rw [e] at h; exact List.mem_cons_of_mem _ (mem_of_lookup h)
def subB (K : PySem.W.Frag) (C : Str) (sub : List (Str × Bool)) : Bool := sub.all fun p => decide (PySem.W.exmOne K (.ref (He.ga K p.1)) (.ref (He.ga K C)) = some p.2)
theorem subB_ok {K : PySem.W.Frag} {C : Str} {sub : List (Str × Bool)} (h : subB K C sub = true) : SubOk K C sub := fun c b e => of_decide_eq_true (List.all_eq_true.mp h (c, b) (mem_of_lookup e))
section
variable {X : Cx} {W : WX} {n y C : Str} {i j : Nat} {body : List Stmt} {np py pn spos pos pos' : Pos} {f : XS} {sub : List (Str × Bool)}
theorem ss_try (i j : Nat) (hx : X.ex = []) (hs : X.stack = X.env :: X.outer) (hf : X.env.frame = some X.env.locals) (hN : X.N.Nodup) (hi : X.N[i]? = some n) (hln : X.env.kindOf n = some .local) (hj : X.N[j]? = some y) (hly : X.env.kindOf y = some .local)
    (hvn : ∀ (a : Addr) (q : List (Addr × Obj)), PE (X.suite a q) (.Name n pn) (tVar i)) (hsw : swapsWith (.Name n pn) (some (.Name y py)) spos.line X.env = pure false) (xc : XcF X.K X.mg C) (so : SubOk X.K C sub) (tk : Takes X W)
    (hb : ∀ (W : WX) (q : List (Addr × Obj)) (xe : Value → Shared → Prop), Takes (X.tr q xe) W → PassesOwn (model X.prog X.w) X.A X.env xe → SSs (X.tr q xe) W body f) (hg : Gl X C := by rfl) (hdb : (C == ("__debug__" : Str)) = false := by decide) :
    SS X W (.Try body [.ExceptHandler (some (.Name C np)) (some n) [.Assign [.Name y py] (.Name n pn) spos] pos'] [] [] pos) (sTry i j sub f) := by
  refine ⟨PS.imp (ps_try_keep (tb := fun W => tS X.K W f) hx hs hf hN hi hln hj hly hvn hsw ⟨hg, hdb, .inl xc.gC⟩ tk fun W q xe t p => (hb W q xe t p).pss) fun D σ H ⟨st, F, μ, rep, q⟩ => ⟨st, F, μ, rep, ?_⟩⟩
  unfold sTry at q
  cases e : f st with
  | no => rw [e] at q; exact q.elim
  | ok fl st1 =>
    rw [e] at q
    cases fl <;> exact q
  | exc c st1 =>
    rw [e] at q
    intro σ1 H1 μ1 F1 m rep1 x1
    cases ls : sub.lookup c with
    | none =>
      have q : AftS X.K W (match sub.lookup c with
        | some true => if i < st1.loc.length ∧ j < st1.loc.length then .ok .next { st1 with loc := ((st1.loc.set i (some (.xcp c))).set j (some (.xcp c))).set i none } else .no
        | some false => .exc c st1
        | none => .no) μ H F D := q
      rw [ls] at q
      exact q.elim
    | some b =>
      have q : AftS X.K W (match sub.lookup c with
        | some true => if i < st1.loc.length ∧ j < st1.loc.length then .ok .next { st1 with loc := ((st1.loc.set i (some (.xcp c))).set j (some (.xcp c))).set i none } else .no
        | some false => .exc c st1
        | none => .no) μ H F D := q
      rw [ls] at q
      refine ⟨b, so c b ls, fun eb a oe na hz hd => ?_, fun eb => ?_⟩
      · subst eb
        have q : AftS X.K W (if i < st1.loc.length ∧ j < st1.loc.length then .ok .next { st1 with loc := ((st1.loc.set i (some (.xcp c))).set j (some (.xcp c))).set i none } else .no) μ H F D := q
        split at q
        · rename_i hl
          have g : ∀ b u, H1 b = some u → (upd H1 a (excH oe)) b = some u := fun b u z => by rw [upd_ne (ne_of_none z na)]; exact z
          have kp : Kp (upd H1 a (excH oe)) (upd H1 a (excH oe)) := Kp.refl _
          have r1 := rep1.grow g
          have ow : Own X.K μ1 (upd H1 a (excH oe)) (fun _ => False) (.ref a) (.xcp c) := .xcp upd_same hz hd
          have r2 := r1.put hl.1 ow (fun _ z => z.elim) (fun _ z => z.elim) (fun _ _ => rfl) kp
          have r3 := r2.put (i := j) (by show j < (st1.loc.set i (some (.xcp c))).length; rw [List.length_set]; exact hl.2) ow (fun _ z => z.elim) (fun _ z => z.elim) (fun _ _ => rfl) kp
          have r4 := r3.hide i
          refine q _ _ μ1 _ m r4 (x1.grow g fun b z => ?_)
          rcases z with z | z | z
          · exact z.elim
          · exact z.elim
          · exact .inl z
        · exact q.elim
      · subst eb
        exact q σ1 H1 μ1 F1 m rep1 x1
end
/-! ### isinstance of a kept exception -/
def excCB (K : PySem.W.Frag) (D : Addr) : Bool := decide (PySem.W.findIn K (.ref D) "__getattribute__" = some (some (.builtin "BaseException.__getattribute__"))) && (decide (PySem.W.findIn K (.ref D) "__getattr__" = some none) &&
  (decide (PySem.W.subIn K (.ref D) (.type "BaseException") = some true) && (PySem.W.hasDictIn K D && (decide (PySem.W.findIn K (.ref D) "__class__" = some (some (.builtin "object.__class__"))) &&
  (decide (PySem.W.specialIn K (.builtin "object.__class__") "__get__" = some (some (.builtin "getset_descriptor.__get__"))) && (decide (PySem.W.takesIn K (.builtin "object.__class__") = some true) && decide (PySem.W.mroIn K D (.type "object") = some true)))))))
theorem excCB_ok {K : PySem.W.Frag} {D : Addr} (h : excCB K D = true) : ExcC K D := by
  unfold excCB at h
  simp only [Bool.and_eq_true, decide_eq_true_eq] at h
  obtain ⟨h1, h2, h3, h4, h5, h6, h7, h8⟩ := h
  exact ⟨h1, h2, h3, h4, h5, h6, h7, h8⟩
/-- isinstance(e, c) for kept exceptions -/
def rIsK (K : PySem.W.Frag) : List V → Hp → VK → Prop := fun xs H Q => ∃ (a D : Addr) (oe : Obj) (u : HO) (c : V) (cv : Value) (b : Bool), xs = [.ref a, c] ∧ H a = some (.frz oe u) ∧ Zc (.ref D) none oe ∧ (∃ vs, oe.data = .fields vs) ∧ ExcC K D ∧ (∀ u, RelV c u → u = cv) ∧ PySem.W.kitOne K (.ref D) cv = some b ∧ Q (.bl b) H
theorem call_isK {X : Cx} : CallR X (.builtin "isinstance") (rIsK X.K) := by
  intro pins s σ H xs us Q I r h
  obtain ⟨a, D, oe, u, c, cv, b, rfl, ha, hz, ⟨vs, hv⟩, C, hcv, e, q⟩ := h
  obtain ⟨u1, u2, rfl, r1, r2⟩ := vals2 r
  cases (show u1 = Value.ref a from r1)
  have ec := hcv _ r2
  subst ec
  have hget : s.heap.get? a = some oe := (I.hok a _ ha).1
  have J : PySem.W.InstAt s.heap a oe D none := by
    obtain ⟨oc, od, oda, osl⟩ := oe
    obtain ⟨h1, h2⟩ := hz
    dsimp only at h1 h2 hv
    subst h1 h2 hv
    exact ⟨hget, rfl, rfl, trivial⟩
  exact PySem.W.kia_one (PySem.W.handS_kitx_exc C.hg C.hk C.hs C.hd C.ha C.hn C.ht C.hm) I.kIn J e (fun z => nomatch z) fun tk => ⟨.bl b, H, I.tok tk, rfl, q⟩
def IsOk (K : PySem.W.Frag) (cv : Value) (sub : List (Str × Bool)) : Prop := ∀ c b, sub.lookup c = some b → ExcC K (He.ga K c) ∧ PySem.W.kitOne K (.ref (He.ga K c)) cv = some b
def isB (K : PySem.W.Frag) (cv : Value) (sub : List (Str × Bool)) : Bool := sub.all fun p => excCB K (He.ga K p.1) && decide (PySem.W.kitOne K (.ref (He.ga K p.1)) cv = some p.2)
theorem isB_ok {K : PySem.W.Frag} {cv : Value} {sub : List (Str × Bool)} (h : isB K cv sub = true) : IsOk K cv sub := fun c b e => by
  obtain ⟨h1, h2⟩ := Bool.and_eq_true_iff.mp (List.all_eq_true.mp h (c, b) (mem_of_lookup e))
  exact ⟨excCB_ok h1, of_decide_eq_true h2⟩
def xIsX (sub : List (Str × Bool)) (f : XE) : XE := fun st => bindO (f st) fun o st => match o with
  | .xcp c => match sub.lookup c with
    | some b => .ok (.d (.bool b)) st
    | none => .no
  | _ => .no
section
variable {X : Cx} {W : WX} {e : Expr} {f : XE} {pos p p3 : Pos} {sub : List (Str × Bool)} {tn : Str}
theorem isX_core {σ : L2.St} {H : Hp} {Q : V → Hp → Prop} {st : St} {F : FP} {μ : Mu} {c : V} {cv : Value} (hcv : ∀ u, RelV c u → u = cv) (so : IsOk X.K cv sub) (rep : Rep X.K σ μ H F st) (q : Aft X.K W σ (fun μ H Fv (v : V) o => Own X.K μ H Fv v o) (xIsX sub f st) μ H F Q) :
    tE X.K W f σ H fun x H1 => rIsK X.K [x, c] H1 Q := by
  refine ⟨st, F, μ, rep, Aft.bind (Fv := fun _ => False) q (List.prefix_refl _) (Ext.refl fun a z => z.elim False.elim id) fun o1 st1 v1 H1 μ1 Fv1 F1 e1 m1 r1 rep1 d1 l1 x1 q1 => ?_⟩
  split at q1
  · rename_i c
    split at q1
    · rename_i b eb
      cases r1 with
      | xcp z1 z2 z3 =>
        obtain ⟨C, k⟩ := so c b eb
        exact ⟨_, _, _, _, _, cv, b, rfl, z1, z2, z3, C, hcv, k, (Aft.fin (G := Fv1) q1 m1 rep1 x1).datum (.bl _)⟩
    · exact q1.elim
  · exact q1.elim
/-- .. of a class of the text -/
theorem se_isX (h : SE X W e f) (hm : X.mg "isinstance" = none) (xc : XcF X.K X.mg tn) (so : IsOk X.K (.ref (He.ga X.K tn)) sub) (hg : Gl X "isinstance" := by rfl) (hg2 : Gl X tn := by rfl) (hdb2 : (tn == ("__debug__" : Str)) = false := by decide)
    (hs1 : starEach [e, .Name tn p3] X.env = (false, eval e X.env) :: starEach [.Name tn p3] X.env := by rfl) (hs2 : starEach [.Name tn p3] X.env = (false, eval (.Name tn p3) X.env) :: starEach [] X.env := by rfl)
    (hpl : (backTo pos (starEach [.Name tn p3] X.env)).any (·.1) = false := by rfl) : SE X W (.Call (.Name "isinstance" p) [e, .Name tn p3] [] pos) (xIsX sub f) := by
  have ht : PE X (.Name tn p3) (tC (.ref (He.ga X.K tn))) := pe_glob hg2 xc.gC rfl hdb2
  exact ⟨PE.imp (pe_callB call_isK hg hm (by decide +kernel) (pa_cons h.pe (pa_cons ht pa_nil hs2) hs1) (by decide) (by decide) hs1 hpl) fun σ H Q ⟨st, F, μ, rep, q⟩ => isX_core (fun u r => r) so rep q⟩
/-- .. of a class that is built in -/
theorem se_isXb {T : String} (h : SE X W e f) (hm : X.mg "isinstance" = none) (hT : X.mg tn = none) (hv : bootBuiltins tn = some (.type T)) (so : IsOk X.K (.type T) sub) (hg : Gl X "isinstance" := by rfl) (hg2 : Gl X tn := by rfl) (hn2 : tn ≠ "__name__" := by decide) (hdb2 : (tn == ("__debug__" : Str)) = false := by decide)
    (hs1 : starEach [e, .Name tn p3] X.env = (false, eval e X.env) :: starEach [.Name tn p3] X.env := by rfl) (hs2 : starEach [.Name tn p3] X.env = (false, eval (.Name tn p3) X.env) :: starEach [] X.env := by rfl)
    (hpl : (backTo pos (starEach [.Name tn p3] X.env)).any (·.1) = false := by rfl) : SE X W (.Call (.Name "isinstance" p) [e, .Name tn p3] [] pos) (xIsX sub f) := by
  have ht : PE X (.Name tn p3) (tC (.ty T)) := pe_bltn hg2 hT hv rfl hn2 hdb2
  exact ⟨PE.imp (pe_callB call_isK hg hm (by decide +kernel) (pa_cons h.pe (pa_cons ht pa_nil hs2) hs1) (by decide) (by decide) hs1 hpl) fun σ H Q ⟨st, F, μ, rep, q⟩ => isX_core (fun u r => r) so rep q⟩
end
end Tr
namespace Tr
open PySem PySem.Spec PyProof.Rows L2
/-! ### x.count(e), flat items -/
theorem countU {y : V} : ∀ {ys : List V} {us : List Value}, Vals ys us → ys.all flatV = true → us.countP (eqU y) = ys.countP fun z => eqV z y
  | _, _, .nil, _ => rfl
  | z :: ys, u :: us, .cons r t, f => by
    obtain ⟨f1, f2⟩ := Bool.and_eq_true_iff.mp (show (_ && _) = true from f)
    rw [List.countP_cons, List.countP_cons, countU t f2, eqU_of r f1]
def rCntF (K : PySem.W.Frag) : V → List V → Hp → VK → Prop := fun x xs H Q => ∃ (p : Addr) (ys : List V) (y : V), x = V.ref p ∧ xs = [y] ∧ SqL K H p ys ∧ flatV y = true ∧ ys.all flatV = true ∧ Q (.int (ys.countP fun z => eqV z y : Nat)) H
theorem mt_cntF {X : Cx} : MtR X "list.count" (rCntF X.K) := by
  intro pins s σ H x xs v us Q I rx rs h
  obtain ⟨p, ys, y, rfl, rfl, hq, f1, f2, q⟩ := h
  cases rx
  obtain ⟨uy, rfl, ry⟩ := rs.one
  obtain ⟨its, rv, ⟨⟨cl, dc, dt, so⟩, n, ho, ec, en, ed⟩, hz⟩ := I.list hq
  dsimp only at ec ed
  subst ec ed
  refine call_meets PySem.F.slot_list_count ⟨_, ho, rfl⟩ PySem.F.entry_list_count (PySem.F.args_list_count_2 _ _)
    (SeqAt.list_countAt p its.toArray n dc so uy (eqU y)) ⟨ho, fun u hu => mem_eqAt ry f1 rv f2 u (by simpa using hu), ?_⟩
  refine ⟨.int ((ys.countP fun z => eqV z y : Nat) : Int), H, I.tok _, ⟨s.toks, ?_⟩, q⟩
  have ec : its.toArray.toList.countP (eqU y) = ys.countP fun z => eqV z y := countU rv f2
  rw [ec]
theorem countV : ∀ (ds : List PyData) (d : PyData), ds.all flatD = true → flatD d = true → (ds.map vOf).countP (fun z => eqV z (vOf d)) = ds.countP fun z => PyData.eqv z d
  | [], _, _, _ => rfl
  | z :: r, d, h, hd => by
    obtain ⟨h1, h2⟩ := Bool.and_eq_true_iff.mp (show (_ && _) = true from h)
    rw [List.map_cons, List.countP_cons, List.countP_cons, countV r d h2 hd, eqV_of h1 hd]
@[simp] def cntO (a b : O) : Option O := match listO a, dataO b with
  | some ds, some d => if ds.all flatD && flatD d then some (.d (.int (ds.countP fun z => PyData.eqv z d : Nat))) else none
  | _, _ => none
@[simp] def xCount (i : Nat) (f : XE) : XE := fun st => match st.loc[i]? with
  | some (some a) => match listO a with
    | some _ => bindO (f st) fun b st2 => match b with
      | .d _ => match st2.loc[i]? with
        | some (some a) => retO (cntO a b) st2
        | _ => .no
      | _ => .no
    | none => .no
  | _ => .no
section
variable {X : Cx} {W : WX} {a e : Expr} {f : XE} {pos p apos cpos : Pos}
theorem se_count (i : Nat) (ho : PE X a (tVar i)) (h : SE X W e f)
    (hbase : attributeBase a "count" X.env (eval a X.env) = eval a X.env := by rfl)
    (hfew : ((backTo cpos (starEach [e] X.env)).all (fun x => !x.1) && (backToKw cpos (keywordEach [] X.env)).all (fun x => x.1.isSome)
      && decide ([e].length + ([] : List Keyword).length + (if ([] : List Keyword).isEmpty then 0 else 1) < 30)) = true := by rfl)
    (hline : (apos.endLine == cpos.line) = true := by rfl) (hs1 : starEach [e] X.env = (false, eval e X.env) :: starEach [] X.env := by rfl) (hplain : (backTo cpos (starEach [] X.env)).any (·.1) = false := by rfl) :
    SE X W (.Call (.Attribute a "count" apos) [e] [] cpos) (xCount i f) := by
  refine ⟨PE.imp (pe_bm PySem.F.plainAttrs_list PySem.F.slot_list_count PySem.F.type_list_count mt_cntF ho (pa_cons h.pe pa_nil hs1) hbase hfew hline hs1 hplain) fun σ H Q ⟨st, F, μ, rep, q⟩ => ?_⟩
  unfold xCount at q
  split at q
  · rename_i o0 e0
    split at q
    · rename_i ds0 ed0
      obtain ⟨v, h1, w0⟩ := rep.slot e0
      obtain ⟨p0, xs0, rfl, rd0, _⟩ := w0.list ed0
      refine ⟨_, h1, .inl ⟨rfl, xs0, Rd.sq rd0⟩, ?_⟩
      refine ⟨st, F, μ, rep, Aft.bind (Fv := fun _ => False) q (List.prefix_refl _) (Ext.refl fun a z => z.elim False.elim id) fun b1 st2 v2 H2 μ2 Fv2 F2 e2 m2 r2 rep2 d2 l2 x2 q2 => ?_⟩
      split at q2
      · rename_i d
        split at q2
        · rename_i a1 e1
          obtain ⟨v', h2, w1⟩ := rep2.slot e1
          rw [h1] at h2; cases h2
          unfold cntO at q2
          split at q2
          · rename_i ds d' el ed
            cases ed
            split at q2
            · rename_i hf
              obtain ⟨hf1, hf2⟩ := Bool.and_eq_true_iff.mp hf
              obtain ⟨p1, xs1, ep, rd1, rl⟩ := w1.list el
              cases ep
              obtain ⟨q3, q4⟩ := rp_flat r2.rp hf2
              obtain ⟨q5, q6⟩ := rpl_flat rl hf1
              refine ⟨_, xs1, v2, rfl, rfl, Rd.sq rd1, q4, q6, ?_⟩
              have ec : (xs1.countP fun z => eqV z v2) = ds.countP fun z => PyData.eqv z d := by rw [q3, q5]; exact countV ds d hf1 hf2
              rw [ec]
              exact (Aft.fin (G := Fv2) q2 m2 rep2 x2).datum (.int _)
            · exact q2.elim
          · exact q2.elim
        · exact q2.elim
      · exact q2.elim
    · exact q.elim
  · exact q.elim
end
/-! ### list(range(..)) -/
theorem rg_rpl {K : PySem.W.Frag} {H : Hp} (i j : Int) : RpL K H (rgV i j) (rangeL i 1 (j - i).toNat) := by
  have h : ∀ (l : List Nat), RpL K H (l.map fun k => V.int (i + (k : Nat))) (l.map fun k => PyData.int (i + (k : Nat) * 1)) := fun l => by
    induction l with
    | nil => exact .nil
    | cons k l ih => exact .cons (by dsimp only; rw [Int.mul_one]; exact .int _) ih
  exact h _
def rgOk (i j : Int) : Bool := bnd i && (bnd j && small (j - i).toNat)
theorem rgOk_ok {i j : Int} (h : rgOk i j = true) : RgOk i j := by
  unfold rgOk bnd small at h
  simp only [Bool.and_eq_true, decide_eq_true_eq] at h
  obtain ⟨⟨h1, h2⟩, ⟨h3, h4⟩, h5⟩ := h
  exact ⟨by omega, by omega, by omega, by omega, by omega⟩
def xLRg1 (fb : XE) : XE := fun st => bindO (fb st) fun b st => match b with
  | .d (.int j) => if rgOk 0 j then .ok (.lst (rangeL 0 1 (j - 0).toNat)) st else .no
  | _ => .no
def xLRg2 (fa fb : XE) : XE := fun st => bindO (fa st) fun a st => bindO (fb st) fun b st => match a, b with
  | .d (.int i), .d (.int j) => if rgOk i j then .ok (.lst (rangeL i 1 (j - i).toNat)) st else .no
  | _, _ => .no
section
variable {X : Cx} {W : WX} {a b : Expr} {fa fb : XE} {pos p p1 pos1 : Pos}
theorem se_lrg1 (hc : X.calm = true) (hl : X.mg "list" = none) (hr : X.mg "range" = none) (hb : SE X W b fb) (hgl : Gl X "list" := by rfl) (hgr : Gl X "range" := by rfl)
    (nb : starEach [b] X.env = (false, eval b X.env) :: starEach [] X.env := by rfl)
    (no : starEach [Expr.Call (.Name "range" p1) [b] [] pos1] X.env = (false, eval (.Call (.Name "range" p1) [b] [] pos1) X.env) :: starEach [] X.env := by rfl) :
    SE X W (.Call (.Name "list" p) [.Call (.Name "range" p1) [b] [] pos1] [] pos) (xLRg1 fb) := by
  refine ⟨PE.imp (pe_listRg hc hgl hl (prg_1 hgr hr hb.pe nb) no) fun σ H Q ⟨st, F, μ, rep, q⟩ => ?_⟩
  refine ⟨st, F, μ, rep, Aft.bind (Fv := fun _ => False) q (List.prefix_refl _) (Ext.refl fun a z => z.elim False.elim id) fun o2 st2 v2 H2 μ2 Fv2 F2 e2 m2 r2 rep2 d2 l2 x2 q2 => ?_⟩
  split at q2
  · rename_i j
    split at q2
    · rename_i ok
      exact ⟨j, r2.int, rgOk_ok ok, (Aft.fin (G := Fv2) q2 m2 rep2 x2).list (rg_rpl 0 j)⟩
    · exact q2.elim
  · exact q2.elim
theorem se_lrg2 (hc : X.calm = true) (hl : X.mg "list" = none) (hr : X.mg "range" = none) (ha : SE X W a fa) (hb : SE X W b fb) (hgl : Gl X "list" := by rfl) (hgr : Gl X "range" := by rfl) (na : starEach [a, b] X.env = (false, eval a X.env) :: starEach [b] X.env := by rfl)
    (nb : starEach [b] X.env = (false, eval b X.env) :: starEach [] X.env := by rfl) (hp : (backTo pos1 (starEach [b] X.env)).any (·.1) = false := by rfl)
    (no : starEach [Expr.Call (.Name "range" p1) [a, b] [] pos1] X.env = (false, eval (.Call (.Name "range" p1) [a, b] [] pos1) X.env) :: starEach [] X.env := by rfl) :
    SE X W (.Call (.Name "list" p) [.Call (.Name "range" p1) [a, b] [] pos1] [] pos) (xLRg2 fa fb) := by
  refine ⟨PE.imp (pe_listRg hc hgl hl (prg_2 hgr hr ha.pe hb.pe na nb hp) no) fun σ H Q ⟨st, F, μ, rep, q⟩ => ?_⟩
  refine ⟨st, F, μ, rep, Aft.bind (Fv := fun _ => False) q (List.prefix_refl _) (Ext.refl fun a z => z.elim False.elim id) fun o1 st1 v1 H1 μ1 Fv1 F1 e1 m1 r1 rep1 d1 l1 x1 q1 => ?_⟩
  refine ⟨st1, F1, μ1, rep1, Aft.bind (Fv := Fv1) q1 m1 x1 fun o2 st2 v2 H2 μ2 Fv2 F2 e2 m2 r2 rep2 d2 l2 x2 q2 => ?_⟩
  split at q2
  · rename_i i j
    split at q2
    · rename_i ok
      refine ⟨i, j, r1.int, r2.int, rgOk_ok ok, (Aft.fin (G := fun a => Fv1 a ∨ Fv2 a) q2 (m1.trans m2) rep2 (x1.trans ((x2.frame (G := Fv1)).imp fun a z => by rcases z with (z | z) | z; exact .inl z; exact .inr (.inl z); exact .inr (.inr z)))).list (rg_rpl i j)⟩
    · exact q2.elim
  · exact q2.elim
end
end Tr
namespace Tr
open PySem PySem.Spec PyProof.Rows L2
/-! ### return x, y of two lists of one's own; f(..)[0] of such -/
def sRetT2 (i j : Nat) : XS := fun st => match st.loc[i]? with
  | some (some (.lst xs)) => match (st.loc.set i none)[j]? with
    | some (some (.lst ys)) => .ok (.ret (.tl xs ys)) { st with loc := (st.loc.set i none).set j none }
    | _ => .no
  | _ => .no
section
variable {X : Cx} {W : WX} {a b e : Expr} {f : XE} {pos p : Pos} {x1 : _}
theorem ss_retT2 (i j : Nat) (ha : PE X a (tVar i)) (hb : PE X b (tVar j)) (h1 : starEach [b] X.env = (false, eval b X.env) :: starEach [] X.env := by rfl) (h2 : starEach [a, b] X.env = (false, eval a X.env) :: starEach [b] X.env := by rfl) :
    SS X W (.Return (some (.Tuple [a, b] x1 p)) pos) (sRetT2 i j) := by
  refine ⟨PS.imp (ps_ret (pe_tup (pa_cons ha (pa_cons hb pa_nil h1) h2))) fun D σ H ⟨st, F, μ, rep, q⟩ => ?_⟩
  unfold sRetT2 at q
  split at q
  · rename_i xs e1
    split at q
    · rename_i ys e2
      obtain ⟨v1, G1, F1, a1, a2, a3, a4, a5, a6⟩ := rep.drop e1
      obtain ⟨v2, G2, F2, b1, b2, b3, b4, b5, b6⟩ := a3.drop e2
      refine ⟨v1, a1, v2, b1, by rw [sizeLine_eq]; exact Nat.le_of_ble_eq_true rfl, fun p np => ?_⟩
      cases a2 with
      | @lst c us _ c1 c2 c3 =>
        cases b2 with
        | @lst d ws _ d1 d2 d3 =>
          have g : ∀ x u, H x = some u → (upd H p (.tup [.ref c, .ref d])) x = some u := fun x u z => by rw [upd_ne (ne_of_none z np)]; exact z
          have kp : Kp H (upd H p (.tup [.ref c, .ref d])) := ⟨fun a xs z => g a _ z, fun a o u z => g a _ z⟩
          have ne : c ≠ d := fun z => by
            subst z
            exact a4 c c3 (b5 c d3)
          refine q (.ref p) σ _ μ (fun x => G1 x ∨ G2 x) F2 (List.prefix_refl _) (.tl upd_same (g _ _ c1) (g _ _ d1) (RpL.kp kp _ c2) (RpL.kp kp _ d2) (.inl c3) (.inr d3) ne) (b3.grow g) (fun x z w => ?_) (fun x z => ?_) ?_
          · rcases z with z | z
            · exact a4 x z (b6 x w)
            · exact b4 x z w
          · have l : H x ≠ none := by
              rcases z with z | z
              · exact rep.live x (a5 x z)
              · exact a3.live x (b5 x z)
            cases q1 : H x with
            | none => exact absurd q1 l
            | some u => rw [g x u q1]; simp
          · refine (Ext.refl (F' := F) fun _ z => z).grow g fun x z => .inl ?_
            rcases z with (z | z) | z
            · exact a5 x z
            · exact a6 x (b5 x z)
            · exact a6 x (b6 x z)
    · exact q.elim
  · exact q.elim
/-- f(..)[0] -/
def xTl0 (f : XE) : XE := fun st => bindO (f st) fun o st => match o with
  | .tl xs _ => .ok (.lst xs) st
  | _ => .no
theorem se_tl0 {j : Nat} {p2 : Pos} (h : SE X W e f) (hs : PlainIx (.Constant (.int 0) j p2) := by exact fun _ _ => rfl) : SE X W (.Subscript e (.Constant (.int 0) j p2) pos) (xTl0 f) := by
  refine ⟨PE.imp (pe_ix ix_tup h.pe (se_int (W := W)).pe hs) fun σ H Q ⟨st, F, μ, rep, q⟩ => ?_⟩
  refine ⟨st, F, μ, rep, Aft.bind (Fv := fun _ => False) q (List.prefix_refl _) (Ext.refl fun a z => z.elim False.elim id) fun o1 st1 v1 H1 μ1 Fv1 F1 e1 m1 r1 rep1 d1 l1 x1 q1 => ?_⟩
  split at q1
  · rename_i xs ys
    refine ⟨st1, F1, μ1, rep1, fun v2 H2 μ2 Fv2 F2 m2 r2 rep2 d2 l2 x2 => ?_⟩
    have r2 : Own X.K μ2 H2 Fv2 v2 (.d (.int 0)) := r2
    have k := keepF x2 d1 l1
    have r3 := r1.step m2 k x2.kp
    cases r2.int
    cases r3 with
    | @tl a b c us ws _ _ h0 h1 h2 h3 h4 h5 h6 h7 =>
      refine ⟨a, [.ref b, .ref c], 0, .ref b, rfl, rfl, .inl (.inl h0), by simp [atI, ixN], ?_⟩
      refine q1 (.ref b) H2 μ2 Fv1 F2 (m1.trans m2) (.lst h1 h3 h5) rep2 (fun x z w => ?_) (fun x z => by rw [k x z]; exact l1 x z) ?_
      · rcases x2.new x (.inr w) with n | n
        · exact l1 x z n
        · exact d1 x z n
      · exact x1.trans ((x2.frame (G := Fv1)).imp fun x z => z.elim .inl fun z => .inr (.inr z))
  · exact q1.elim
end
/-! ### a op b op' c, b any -/
section
variable {X : Cx} {W : WX} {a b c : Expr} {fa fb fc : XE} {pos : Pos}
theorem cbw_frz (h : O → Option PyData) (i : Nat) : ∀ st o st', xCBw h i st = .ok o st' → frz o = o := fun st o st' e => by
  unfold xCBw at e
  split at e
  · split at e
    · cases e; rfl
    · cases e
  · cases e
theorem echainG {op op' : CmpOp} {h h' : O → O → Option O} (hz : ∀ st o st', fb st = .ok o st' → frz o = o) (r : CR X op h) (r' : CR X op' h') (ha : SE X W a fa) (hb : SE X W b fb) (hc : SE X W c fc) (hm : lastMarks [op, op'] [b, c] = false := by with_unfolding_all rfl) : SE X W (.Compare a [op, op'] [b, c] pos) (xChain h h' fa fb fc) :=
  let ⟨_, h1, h2⟩ := r.ex
  let ⟨_, h3, h4⟩ := r'.ex
  se_chain h1 h3 h2 h4 ha hb hc hz hm
theorem tchainG {op op' : CmpOp} {h h' : O → O → Option O} (hz : ∀ st o st', fb st = .ok o st' → frz o = o) (r : CR X op h) (r' : CR X op' h') (ha : SE X W a fa) (hb : SE X W b fb) (hc : SE X W c fc) (hm : lastMarks [op, op'] [b, c] = false := by with_unfolding_all rfl) : ST X W (.Compare a [op, op'] [b, c] pos) (tVal (xChain h h' fa fb fc)) :=
  let ⟨_, h1, h2⟩ := r.ex
  let ⟨_, h3, h4⟩ := r'.ex
  st_chain h1 h3 h2 h4 ha hb hc hz hm
end
end Tr
namespace Tr
open PySem PySem.Spec PyProof.Rows L2
/-! ### keys: == -/
@[simp] theorem nkey_int (i : Int) : nkey (.int i) = some (.num i) := by rw [nkey]
@[simp] theorem nkey_tup (ds : List PyData) : nkey (.tuple ds) = (nkeys ds).map .tup := by rw [nkey]
@[simp] theorem nkeys_nil : nkeys [] = some [] := by rw [nkeys]
theorem nkeys_cons (d : PyData) (ds : List PyData) : nkeys (d :: ds) = match nkey d, nkeys ds with
    | some k, some ks => some (k :: ks)
    | _, _ => none := by
  rw [nkeys] <;> (cases nkey d <;> cases nkeys ds <;> rfl)
mutual
theorem eqv_nkey : ∀ (a b : PyData) {x y : NestedKey}, nkey a = some x → nkey b = some y → PyData.eqv a b = NestedKey.beq x y
  | .int i, .int j, x, y, h1, h2 => by
    rw [nkey_int] at h1 h2
    cases h1; cases h2
    rw [PyData.eqv, NestedKey.beq, Bool.beq_eq_decide_eq]
  | .tuple ds, .tuple es, x, y, h1, h2 => by
    rw [nkey_tup] at h1 h2
    obtain ⟨xs, e1, rfl⟩ := Option.map_eq_some_iff.mp h1
    obtain ⟨ys, e2, rfl⟩ := Option.map_eq_some_iff.mp h2
    rw [PyData.eqv, NestedKey.beq, eqv_nkeys ds es e1 e2]
  | .int i, .tuple es, x, y, h1, h2 => by
    rw [nkey_int] at h1
    rw [nkey_tup] at h2
    obtain ⟨ys, e2, rfl⟩ := Option.map_eq_some_iff.mp h2
    cases h1
    rw [PyData.eqv, NestedKey.beq]
  | .tuple es, .int i, x, y, h1, h2 => by
    rw [nkey_tup] at h1
    rw [nkey_int] at h2
    obtain ⟨ys, e2, rfl⟩ := Option.map_eq_some_iff.mp h1
    cases h2
    rw [PyData.eqv, NestedKey.beq]
  | .none, _, _, _, h, _ => by rw [nkey] at h <;> first | (cases h) | simp
  | .bool _, _, _, _, h, _ => by rw [nkey] at h <;> first | (cases h) | simp
  | .str _, _, _, _, h, _ => by rw [nkey] at h <;> first | (cases h) | simp
  | .list _, _, _, _, h, _ => by rw [nkey] at h <;> first | (cases h) | simp
  | .dict _, _, _, _, h, _ => by rw [nkey] at h <;> first | (cases h) | simp
  | _, .none, _, _, _, h => by rw [nkey] at h <;> first | (cases h) | simp
  | _, .bool _, _, _, _, h => by rw [nkey] at h <;> first | (cases h) | simp
  | _, .str _, _, _, _, h => by rw [nkey] at h <;> first | (cases h) | simp
  | _, .list _, _, _, _, h => by rw [nkey] at h <;> first | (cases h) | simp
  | _, .dict _, _, _, _, h => by rw [nkey] at h <;> first | (cases h) | simp
theorem eqv_nkeys : ∀ (as bs : List PyData) {xs ys : List NestedKey}, nkeys as = some xs → nkeys bs = some ys → PyData.eqvAll as bs = NestedKey.beqAll xs ys
  | [], [], _, _, h1, h2 => by
    rw [nkeys_nil] at h1 h2
    cases h1; cases h2
    rw [PyData.eqvAll, NestedKey.beqAll]
  | a :: as, [], _, _, h1, h2 => by
    rw [nkeys_cons] at h1
    rw [nkeys_nil] at h2
    cases h2
    split at h1
    · cases h1; rw [PyData.eqvAll, NestedKey.beqAll] <;> simp
    · cases h1
  | [], b :: bs, _, _, h1, h2 => by
    rw [nkeys_nil] at h1
    rw [nkeys_cons] at h2
    cases h1
    split at h2
    · cases h2; rw [PyData.eqvAll, NestedKey.beqAll] <;> simp
    · cases h2
  | a :: as, b :: bs, _, _, h1, h2 => by
    rw [nkeys_cons] at h1 h2
    split at h1
    · rename_i k ks e1 e2
      cases h1
      split at h2
      · rename_i l ls e3 e4
        cases h2
        rw [PyData.eqvAll, NestedKey.beqAll, eqv_nkey a b e1 e3, eqv_nkeys as bs e2 e4]
      · cases h2
    · cases h1
end
/-! ### what a dict gives, what a store makes of it -/
def dGet : List (PyData × PyData) → PyData → Option PyData
  | [], _ => none
  | e :: r, k => if PyData.eqv e.1 k then some e.2 else dGet r k
def dHas (es : List (PyData × PyData)) (k : PyData) : Bool := es.any fun e => PyData.eqv e.1 k
def dPut (es : List (PyData × PyData)) (k v : PyData) : List (PyData × PyData) :=
  if dHas es k then es.map fun e => if PyData.eqv e.1 k then (e.1, v) else e else es ++ [(k, v)]
theorem dHas_get (es : List (PyData × PyData)) (k : PyData) : dHas es k = (dGet es k).isSome := by
  induction es with
  | nil => rfl
  | cons e r ih =>
    unfold dHas at ih ⊢
    unfold dGet
    rw [List.any_cons, ih]
    cases PyData.eqv e.1 k <;> rfl
def keyK : PyData → Bool
  | .int _ => true
  | .str _ => true
  | _ => false
def keyT (d : PyData) : Bool := match d with
  | .tuple _ => match nkey d with
    | some k => decide (k.depth ≤ 8)
    | none => false
  | _ => false
def kOk (es : List (PyData × PyData)) (k : PyData) : Bool := (keyK k && es.all fun e => keyK e.1) || (keyT k && es.all fun e => keyT e.1)
theorem keyT_ok {d : PyData} (h : keyT d = true) : ∃ k, nkey d = some k ∧ k.depth ≤ 8 := by
  unfold keyT at h
  split at h
  · split at h
    · rename_i k e; exact ⟨k, e, of_decide_eq_true h⟩
    · cases h
  · cases h
theorem keyT_ref {K : PySem.W.Frag} {H : Hp} {v : V} {d : PyData} (h : keyT d = true) (r : Rp K H v d) : ∃ a, v = .ref a := by
  cases r with
  | tup _ _ => exact ⟨_, rfl⟩
  | lst _ _ => exact ⟨_, rfl⟩
  | dct _ _ _ => exact ⟨_, rfl⟩
  | _ => cases h
theorem keyK_ok {K : PySem.W.Frag} {H : Hp} {v : V} {d : PyData} (h : keyK d = true) (r : Rp K H v d) : ∃ k, v = kV k ∧ d = kD k := by
  cases r with
  | int i => exact ⟨.inl i, rfl, rfl⟩
  | str x => exact ⟨.inr x, rfl, rfl⟩
  | _ => cases h
theorem kD_eqv (a b : Key) : PyData.eqv (kD a) (kD b) = decide (a = b) := by
  cases a with
  | inl i => cases b with
    | inl j => rw [key_ll]; show PyData.eqv (.int i) (.int j) = _; rw [PyData.eqv]
    | inr y => rw [key_lr]; show PyData.eqv (.int i) (.str y) = _; rw [PyData.eqv]
  | inr x => cases b with
    | inl j => rw [key_rl]; show PyData.eqv (.str x) (.int j) = _; rw [PyData.eqv]
    | inr y => rw [key_rr]; show PyData.eqv (.str x) (.str y) = _; rw [PyData.eqv, Bool.beq_eq_decide_eq]
/-- a dict is read: as one with flat keys, as one with nested ones -/
structure DR (K : PySem.W.Frag) (H : Hp) (a : Addr) (es : List (PyData × PyData)) : Prop where
  ex : ∃ u xs, Rd H a u ∧ DOf a u xs ∧ RpD K H xs es
section
variable {X : Cx} {pins : List (Addr × Obj)} {σ : L2.St} {H : Hp} {s : Shared} {a : Addr} {es : List (PyData × PyData)}
mutual
theorem nested_of (I : Inv X pins σ H s) : ∀ (d : PyData) {v : V} {u : Value} {k : NestedKey}, Rp X.K H v d → nkey d = some k → RelV v u → NestedIs s.heap k u
  | .int i, v, u, k, r, e, rv => by
    rw [nkey] at e
    cases e; cases r
    obtain ⟨t, rfl⟩ := rv
    exact .int i t
  | .tuple ds, v, u, k, r, e, rv => by
    rw [nkey] at e
    obtain ⟨ks, e1, rfl⟩ := Option.map_eq_some_iff.mp e
    cases r with
    | tup a b =>
      cases rv
      obtain ⟨its, rv2, ⟨o, ho, hc, n, hd⟩, _⟩ := I.tuple a.sq
      exact .tup ho hc hd (nesteds_of I ds b e1 rv2)
  | .none, _, _, _, _, h, _ => by rw [nkey] at h <;> first | (cases h) | simp
  | .bool _, _, _, _, _, h, _ => by rw [nkey] at h <;> first | (cases h) | simp
  | .str _, _, _, _, _, h, _ => by rw [nkey] at h <;> first | (cases h) | simp
  | .list _, _, _, _, _, h, _ => by rw [nkey] at h <;> first | (cases h) | simp
  | .dict _, _, _, _, _, h, _ => by rw [nkey] at h <;> first | (cases h) | simp
theorem nesteds_of (I : Inv X pins σ H s) : ∀ (ds : List PyData) {vs : List V} {us : List Value} {ks : List NestedKey}, RpL X.K H vs ds → nkeys ds = some ks → Vals vs us → NestedAll s.heap ks us
  | [], vs, us, ks, r, e, rv => by
    rw [nkeys] at e
    cases e; cases r; cases rv
    exact .nil
  | d :: ds, vs, us, ks, r, e, rv => by
    rw [nkeys] at e
    split at e
    · rename_i k ks' e1 e2
      cases e
      cases r with
      | cons r1 r2 =>
        cases rv with
        | cons v1 v2 => exact .cons (nested_of I d r1 e1 v1) (nesteds_of I ds r2 e2 v2)
    · cases e
end
theorem ent_eq {w : World} {P : Program} {xs : List (PyData × Addr × V)} {ys : List (NestedKey × Addr × Value)} (h : Paired (fun (p : PyData × Addr × V) (q : NestedKey × Addr × Value) => nkey p.1 = some q.1 ∧ q.1.depth ≤ 8 ∧ p.2.1 = q.2.1 ∧ RelV p.2.2 q.2.2) xs ys) : ys.map entN = ys.map (entryOfKey (nestedKind P w)) := by
  induction h with
  | nil => rfl
  | cons a b ih =>
    rw [List.map_cons, List.map_cons, ih]
    congr 1
    unfold entN entryOfKey
    rw [show (nestedKind P w).hash _ = NestedKey.hash w _ from rfl, hN_ok _ a.1]
/-- entries and what they are -/
abbrev EnT (K : PySem.W.Frag) (H : Hp) : List (NestedKey × Addr × Value) → List (PyData × PyData) → Prop := Paired fun y e => nkey e.1 = some y.1 ∧ y.1.depth ≤ 8 ∧ Rp K H (.ref y.2.1) e.1 ∧ ∃ v, RelV v y.2.2 ∧ Rp K H v e.2
abbrev EnK (K : PySem.W.Frag) (H : Hp) : List (Key × V) → List (PyData × PyData) → Prop := Paired fun y e => kD y.1 = e.1 ∧ Rp K H y.2 e.2
end
theorem pairs_nil {w : World} {P : Program} {h : Heap} {a : Addr} (d : h.DictOf (mixKind P w) a []) : h.DictOfH (nestedKind P w) a [] := by
  obtain ⟨o, es, ep, h1, h2, h3, _, h4, _⟩ := d
  refine ⟨o, es, ep, h1, h2, h3, ?_, (fun _ hx => by cases hx), List.Pairwise.nil⟩
  generalize es.toList = l at h4 ⊢
  cases h4
  rfl
theorem nil_pairs {w : World} {P : Program} {h : Heap} {a : Addr} (d : h.DictOfH (nestedKind P w) a []) : h.DictOf (mixKind P w) a [] := by
  obtain ⟨o, es, ep, h1, h2, h3, h4, _⟩ := d
  have e : es.toList = [] := h4
  refine ⟨o, es, ep, h1, h2, h3, fun x hx => ?_, by rw [e]; exact .nil, List.Pairwise.nil⟩
  have : x ∈ es.toList := by simpa using hx
  rw [e] at this
  cases this
section
variable {X : Cx} {pins : List (Addr × Obj)} {σ : L2.St} {H : Hp} {s : Shared} {a : Addr} {es : List (PyData × PyData)}
theorem rpd_k {K : PySem.W.Frag} {H : Hp} : ∀ {kvs : List (Key × V)} {es : List (PyData × PyData)}, RpD K H (kvs.map fun p => (kV p.1, kD p.1, p.2)) es → EnK K H kvs es
  | [], _, h => by cases h; exact .nil
  | p :: r, _, h => by
    cases h with
    | cons a b c => exact .cons ⟨rfl, b⟩ (rpd_k c)
theorem DR.asK (I : Inv X pins σ H s) (h : DR X.K H a es) (hk : es.all (fun e => keyK e.1) = true) : ∃ kvs vs, KV kvs vs ∧ s.heap.DictOf (mixKind X.prog X.w) a vs ∧ (a == sysModules) = false ∧ kvs.length ≤ sizeLine ∧ EnK X.K H kvs es := by
  obtain ⟨u, xs, rd, d, r⟩ := h.ex
  cases d with
  | k kvs =>
    obtain ⟨z, hd, vs, rel, dd⟩ := dk_rd I.hok rd
    exact ⟨kvs, vs, rel, dd, hd, z, rpd_k r⟩
  | t ys =>
    obtain ⟨⟨z, hd, qs, pr, o, ds, ep, h1, h2, h3, h4, h5⟩, ox, stb⟩ := (show ObjOk X.prog X.w H s.heap a (DicO a ys) from rd_of I.hok rd)
    cases ys with
    | nil =>
      cases r
      cases pr
      exact ⟨[], [], .nil, nil_pairs ⟨o, ds, ep, h1, h2, h3, h4, (fun _ hx => by cases hx), List.Pairwise.nil⟩, hd, Nat.zero_le _, .nil⟩
    | cons y ys =>
      cases r with
      | cons a b c =>
        have hk := (Bool.and_eq_true_iff.mp (show (_ && _) = true from hk)).1
        obtain ⟨k, e, _⟩ := keyK_ok hk a
        cases k <;> cases e
theorem DR.asT (I : Inv X pins σ H s) (h : DR X.K H a es) (hk : es.all (fun e => keyT e.1) = true) : ∃ ys, s.heap.DictOfH (nestedKind X.prog X.w) a ys ∧ (a == sysModules) = false ∧ ys.length ≤ sizeLine ∧ EnT X.K H ys es := by
  obtain ⟨u, xs, rd, d, r⟩ := h.ex
  cases d with
  | k kvs =>
    obtain ⟨z, hd, vs, rel, dd⟩ := dk_rd I.hok rd
    cases kvs with
    | nil =>
      cases r
      cases rel
      exact ⟨[], pairs_nil dd, hd, Nat.zero_le _, .nil⟩
    | cons p kvs =>
      cases r with
      | cons a b c =>
        have hk := (Bool.and_eq_true_iff.mp (show (_ && _) = true from hk)).1
        obtain ⟨k, e⟩ := keyT_ref hk a
        obtain ⟨k', v'⟩ := p
        cases k' <;> cases e
  | t ys =>
    obtain ⟨⟨z, hd, qs, pr, o, ds, ep, h1, h2, h3, h4, h5⟩, ox, stb⟩ := (show ObjOk X.prog X.w H s.heap a (DicO a ys) from rd_of I.hok rd)
    have hl : ys.length = qs.length := Paired.length pr
    have en : EnT X.K H qs es := by
      clear h4 h5 hl z rd h stb
      induction pr generalizing es with
      | nil => cases r; exact .nil
      | cons a b ih =>
        cases r with
        | cons r1 r2 r3 =>
          have hk := (Bool.and_eq_true_iff.mp (show (_ && _) = true from hk)).2
          obtain ⟨a1, a2, a3, a4⟩ := a
          exact .cons ⟨a1, a2, a3 ▸ r1, _, a4, r2⟩ (ih hk r3)
    refine ⟨qs, ⟨o, ds, ep, h1, h2, h3, by rw [h4, ent_eq pr], ?_, h5⟩, hd, by rw [← hl]; exact z, en⟩
    clear h4 h5 hl pr h r hk rd
    induction en with
    | nil => exact fun _ hx => nomatch hx
    | cons a b ih =>
      intro x hx
      rcases List.mem_cons.mp hx with rfl | hx
      · exact ⟨nested_of I _ a.2.2.1 a.1 rfl, a.2.1⟩
      · exact ih x hx
/-! the values -/
theorem EnK.get {K : PySem.W.Frag} {H : Hp} {kvs : List (Key × V)} (h : EnK K H kvs es) (k : Key) : match dGet es (kD k) with
    | some d => ∃ v, valV kvs k = some v ∧ Rp K H v d
    | none => valV kvs k = none := by
  induction h with
  | nil => rfl
  | @cons p e _ _ a b ih =>
    unfold dGet
    rw [← a.1, kD_eqv]
    by_cases c : p.1 = k
    · rw [if_pos (decide_eq_true c)]
      exact ⟨_, valV_pos c, a.2⟩
    · rw [if_neg (by simpa using c), valV_neg c]
      exact ih
theorem EnT.get {K : PySem.W.Frag} {H : Hp} {ys : List (NestedKey × Addr × Value)} (h : EnT K H ys es) {kd : PyData} {k : NestedKey} (e : nkey kd = some k) : match dGet es kd with
    | some d => ∃ p v, atKey ys k = some p ∧ RelV v p.2 ∧ Rp K H v d
    | none => atKey ys k = none := by
  induction h with
  | nil => rfl
  | @cons p e' _ _ a b ih =>
    unfold dGet
    rw [eqv_nkey _ _ a.1 e, ← NestedKey.decide_eq]
    by_cases c : p.1 = k
    · rw [if_pos (decide_eq_true c)]
      obtain ⟨v, v1, v2⟩ := a.2.2.2
      exact ⟨p.2, v, by unfold atKey; rw [List.find?_cons_of_pos (by simpa using c)]; rfl, v1, v2⟩
    · rw [if_neg (by simpa using c)]
      have : ∀ r, atKey (p :: r) k = atKey r k := fun r => by unfold atKey; rw [List.find?_cons_of_neg (by simpa using c)]
      rw [this]
      exact ih

theorem EnK.kp {K : PySem.W.Frag} {H H' : Hp} {kvs : List (Key × V)} (k : Kp H H') (h : EnK K H kvs es) : EnK K H' kvs es := L2.Paired.mapP h fun _ _ z => ⟨z.1, z.2.kpP k⟩
theorem EnT.kp {K : PySem.W.Frag} {H H' : Hp} {ys : List (NestedKey × Addr × Value)} (k : Kp H H') (h : EnT K H ys es) : EnT K H' ys es := L2.Paired.mapP h fun _ _ z => ⟨z.1, z.2.1, z.2.2.1.kpP k, let ⟨v, a, b⟩ := z.2.2.2; ⟨v, a, b.kpP k⟩⟩
theorem EnK.rpd {K : PySem.W.Frag} {H : Hp} {kvs : List (Key × V)} (h : EnK K H kvs es) : RpD K H (kvs.map fun p => (kV p.1, kD p.1, p.2)) es := by
  induction h with
  | nil => exact .nil
  | @cons p e _ _ a b ih =>
    obtain ⟨e1, e2⟩ := e
    obtain ⟨a1, a2⟩ := a
    cases a1
    refine .cons ?_ a2 ih
    cases p.1 with
    | inl i => exact .int i
    | inr x => exact .str x
theorem EnT.dat {K : PySem.W.Frag} {H : Hp} {ys : List (NestedKey × Addr × Value)} (h : EnT K H ys es) : ∃ xs : List (PyData × Addr × V), Paired (fun (p : PyData × Addr × V) (q : NestedKey × Addr × Value) => nkey p.1 = some q.1 ∧ q.1.depth ≤ 8 ∧ p.2.1 = q.2.1 ∧ RelV p.2.2 q.2.2) xs ys ∧
    RpD K H (xs.map fun p => (.ref p.2.1, p.1, p.2.2)) es := by
  induction h with
  | nil => exact ⟨[], .nil, .nil⟩
  | @cons y e _ _ a b ih =>
    obtain ⟨xs, h1, h2⟩ := ih
    obtain ⟨a1, a2, a3, v, a4, a5⟩ := a
    obtain ⟨e1, e2⟩ := e
    exact ⟨(e1, y.2.1, v) :: xs, .cons ⟨a1, a2, rfl, a4⟩ h1, .cons a3 a5 h2⟩
theorem EnK.any {K : PySem.W.Frag} {H : Hp} {kvs : List (Key × V)} (h : EnK K H kvs es) (k : Key) : (kvs.any fun kv => decide (kv.1 = k)) = dHas es (kD k) := by
  induction h with
  | nil => rfl
  | @cons p e _ _ a b ih =>
    unfold dHas at ih ⊢
    rw [List.any_cons, List.any_cons, ih, ← a.1, kD_eqv]
theorem EnK.repl {K : PySem.W.Frag} {H : Hp} {kvs : List (Key × V)} (h : EnK K H kvs es) (k : Key) {v : V} {d : PyData} (r : Rp K H v d) : EnK K H (kvs.map fun kv => if kv.1 = k then (kv.1, v) else kv) (es.map fun e => if PyData.eqv e.1 (kD k) then (e.1, d) else e) := by
  induction h with
  | nil => exact .nil
  | @cons p e _ _ a b ih =>
    refine .cons ?_ ih
    dsimp only
    rw [← a.1, kD_eqv]
    by_cases c : p.1 = k
    · rw [if_pos c, if_pos (decide_eq_true c)]; exact ⟨rfl, r⟩
    · rw [if_neg c, if_neg (by simpa using c)]; exact a
theorem EnK.put {K : PySem.W.Frag} {H : Hp} {kvs : List (Key × V)} (h : EnK K H kvs es) (k : Key) {v : V} {d : PyData} (r : Rp K H v d) : EnK K H (putK kvs k v) (dPut es (kD k) d) := by
  unfold putK dPut
  rw [h.any k]
  split
  · exact h.repl k r
  · exact Paired.snoc h ⟨rfl, r⟩
theorem EnT.repl {K : PySem.W.Frag} {H : Hp} {ys : List (NestedKey × Addr × Value)} (h : EnT K H ys es) {k : NestedKey} {kd : PyData} (e : nkey kd = some k) {v : V} {w : Value} {d : PyData} (rv : RelV v w) (r : Rp K H v d) : EnT K H (ys.map (PySem.putAt k w)) (es.map fun e => if PyData.eqv e.1 kd then (e.1, d) else e) := by
  induction h with
  | nil => exact .nil
  | @cons p e' _ _ a b ih =>
    refine .cons ?_ ih
    dsimp only
    rw [eqv_nkey _ _ a.1 e, ← NestedKey.decide_eq]
    unfold PySem.putAt
    by_cases c : p.1 = k
    · rw [if_pos c, if_pos (decide_eq_true c)]; exact ⟨a.1, a.2.1, a.2.2.1, v, rv, r⟩
    · rw [if_neg c, if_neg (by simpa using c)]; exact a
theorem EnT.put {K : PySem.W.Frag} {H : Hp} {ys : List (NestedKey × Addr × Value)} (h : EnT K H ys es) {k : NestedKey} {kd : PyData} (e : nkey kd = some k) (hd : k.depth ≤ 8) {b : Addr} (rk : Rp K H (.ref b) kd) {v : V} {w : Value} {d : PyData} (rv : RelV v w) (r : Rp K H v d) :
    EnT K H (storedH ys k b w) (dPut es kd d) := by
  unfold storedH dPut
  have g := h.get e
  rw [dHas_get]
  cases q : dGet es kd with
  | none =>
    rw [q] at g
    have g : atKey ys k = none := g
    rw [g]
    exact Paired.snoc h ⟨e, hd, rk, v, rv, r⟩
  | some d0 =>
    rw [q] at g
    obtain ⟨p, v0, g1, _⟩ := g
    rw [g1]
    exact h.repl e rv r
theorem room8 {A : Around} (hu : A.units + 10 < cLine) : (nestedKind X.prog X.w).room A.in1 := by
  show A.units + 1 + 8 < cLine
  omega
theorem kOk_or {es : List (PyData × PyData)} {k : PyData} (h : kOk es k = true) : (keyK k = true ∧ es.all (fun e => keyK e.1) = true) ∨ (keyT k = true ∧ es.all (fun e => keyT e.1) = true) := by
  unfold kOk at h
  simpa only [Bool.or_eq_true, Bool.and_eq_true] using h
variable {A : Around} {E : Value → Shared → Prop} {y : V} {kd d : PyData} {u w : Value}
/-- a[y], there -/
theorem dr_getItem {Q : Value → Shared → Prop} (hu : A.units + 10 < cLine) (I : Inv X pins σ H s) (D : DR X.K H a es) (rk : Rp X.K H y kd) (ok : kOk es kd = true) (g : dGet es kd = some d) (ry : RelV y u)
    (h : ∀ v w' s', Rp X.K H v d → Inv X pins σ H s' → RelV v w' → Q w' s') : wpAny (model X.prog X.w) A (getItem (.ref a) u) Q E s := by
  rcases kOk_or ok with ⟨o1, o2⟩ | ⟨o1, o2⟩
  · obtain ⟨kvs, vs, rel, dd, hd, z, en⟩ := D.asK I o2
    obtain ⟨k, rfl, rfl⟩ := keyK_ok o1 rk
    have g2 := en.get k
    rw [g] at g2
    obtain ⟨v, g3, g4⟩ := g2
    obtain ⟨w', hw, rw'⟩ := RelO.some_of (v := v) (o := valueAt vs k) (by rw [← g3]; exact rel.val k)
    exact wpAny_getItem_of (kV_is ry) dd.mapOf hw (h v w' _ g4 (I.tok _) rw')
  · obtain ⟨ys, dd, hd, z, en⟩ := D.asT I o2
    obtain ⟨b, rfl⟩ := keyT_ref o1 rk
    obtain ⟨k, e, dp⟩ := keyT_ok o1
    cases (show u = Value.ref b from ry)
    have g2 := en.get e
    rw [g] at g2
    obtain ⟨p, v, g3, g4, g5⟩ := g2
    exact wpAny_getItem_heap (room8 hu) ⟨nested_of I _ rk e rfl, dp⟩ dd g3 (h v _ _ g5 (I.tok _) g4)
theorem dr_in {Q : Value → Shared → Prop} (hu : A.units + 10 < cLine) (I : Inv X pins σ H s) (D : DR X.K H a es) (rk : Rp X.K H y kd) (ok : kOk es kd = true) (ry : RelV y u)
    (h : ∀ s', Inv X pins σ H s' → Q (.bool (dHas es kd)) s') : wpAny (model X.prog X.w) A (compareOp .In u (.ref a)) Q E s := by
  rw [dHas_get] at h
  rcases kOk_or ok with ⟨o1, o2⟩ | ⟨o1, o2⟩
  · obtain ⟨kvs, vs, rel, dd, hd, z, en⟩ := D.asK I o2
    obtain ⟨k, rfl, rfl⟩ := keyK_ok o1 rk
    refine wpAny_in_of (kV_is ry) hd dd.mapOf ?_
    rw [← (rel.val k).isSome_eq]
    have g2 := en.get k
    cases q : dGet es (kD k) with
    | none => rw [q] at g2 h; rw [show valV kvs k = none from g2]; exact h _ (I.tok _)
    | some d => rw [q] at g2 h; obtain ⟨v, g3, _⟩ := g2; rw [g3]; exact h _ (I.tok _)
  · obtain ⟨ys, dd, hd, z, en⟩ := D.asT I o2
    obtain ⟨b, rfl⟩ := keyT_ref o1 rk
    obtain ⟨k, e, dp⟩ := keyT_ok o1
    cases (show u = Value.ref b from ry)
    refine wpAny_in_heap (room8 hu) ⟨nested_of I _ rk e rfl, dp⟩ hd dd ?_
    have g2 := en.get e
    cases q : dGet es kd with
    | none => rw [q] at g2 h; rw [show atKey ys k = none from g2]; exact h _ (I.tok _)
    | some d => rw [q] at g2 h; obtain ⟨p, v, g3, _⟩ := g2; rw [g3]; exact h _ (I.tok _)
theorem dr_notIn {Q : Value → Shared → Prop} (hu : A.units + 10 < cLine) (I : Inv X pins σ H s) (D : DR X.K H a es) (rk : Rp X.K H y kd) (ok : kOk es kd = true) (ry : RelV y u)
    (h : ∀ s', Inv X pins σ H s' → Q (.bool (!dHas es kd)) s') : wpAny (model X.prog X.w) A (compareOp .NotIn u (.ref a)) Q E s := by
  rw [dHas_get] at h
  rcases kOk_or ok with ⟨o1, o2⟩ | ⟨o1, o2⟩
  · obtain ⟨kvs, vs, rel, dd, hd, z, en⟩ := D.asK I o2
    obtain ⟨k, rfl, rfl⟩ := keyK_ok o1 rk
    refine wpAny_notIn_of (kV_is ry) hd dd.mapOf ?_
    rw [← (rel.val k).isSome_eq]
    have g2 := en.get k
    cases q : dGet es (kD k) with
    | none => rw [q] at g2 h; rw [show valV kvs k = none from g2]; exact h _ (I.tok _)
    | some d => rw [q] at g2 h; obtain ⟨v, g3, _⟩ := g2; rw [g3]; exact h _ (I.tok _)
  · obtain ⟨ys, dd, hd, z, en⟩ := D.asT I o2
    obtain ⟨b, rfl⟩ := keyT_ref o1 rk
    obtain ⟨k, e, dp⟩ := keyT_ok o1
    cases (show u = Value.ref b from ry)
    refine PyProof.Rows.wpAny_notIn_heap (room8 hu) ⟨nested_of I _ rk e rfl, dp⟩ hd dd ?_
    have g2 := en.get e
    cases q : dGet es kd with
    | none => rw [q] at g2 h; rw [show atKey ys k = none from g2]; exact h _ (I.tok _)
    | some d => rw [q] at g2 h; obtain ⟨p, v, g3, _⟩ := g2; rw [g3]; exact h _ (I.tok _)
/-- a.get(y, x) -/
theorem dr_get2 {x : V} {xd : PyData} {Q : Value → Shared → Prop} (hu : A.units + 10 < cLine) (I : Inv X pins σ H s) (D : DR X.K H a es) (rk : Rp X.K H y kd) (ok : kOk es kd = true) (ry : RelV y u) (rx : Rp X.K H x xd) (rw' : RelV x w)
    (h : ∀ v w' s', Rp X.K H v ((dGet es kd).getD xd) → Inv X pins σ H s' → RelV v w' → Q w' s') : wpAny (model X.prog X.w) A (call (.builtin "dict.get") [.ref a, u, w]) Q E s := by
  rcases kOk_or ok with ⟨o1, o2⟩ | ⟨o1, o2⟩
  · obtain ⟨kvs, vs, rel, dd, hd, z, en⟩ := D.asK I o2
    obtain ⟨k, rfl, rfl⟩ := keyK_ok o1 rk
    refine call_meetsIn PySem.F.slot_dict_get dd.typeIs PySem.F.entry_dict_get (PySem.F.args_dict_get_3 _ _ _) (meets_dict_get_default (mixKind X.prog X.w) a (kV_is ry) hd w) ⟨_, dd.mapOf, ?_⟩
    have g2 := en.get k
    cases q : dGet es (kD k) with
    | none =>
      rw [q] at g2 h
      exact h x _ _ rx (I.tok _) (by have := (rel.val k).getD rw'; rw [show valV kvs k = none from g2] at this; exact this)
    | some d =>
      rw [q] at g2 h
      obtain ⟨v, g3, g4⟩ := g2
      exact h v _ _ g4 (I.tok _) (by have := (rel.val k).getD rw'; rw [g3] at this; exact this)
  · obtain ⟨ys, dd, hd, z, en⟩ := D.asT I o2
    obtain ⟨b, rfl⟩ := keyT_ref o1 rk
    obtain ⟨k, e, dp⟩ := keyT_ok o1
    cases (show u = Value.ref b from ry)
    refine call_meetsIn PySem.F.slot_dict_get dd.typeIs PySem.F.entry_dict_get (PySem.F.args_dict_get_3 _ _ _) (meetsH_dict_get_default (nestedKind X.prog X.w) a b hd w) ⟨room8 hu, k, ys, ⟨nested_of I _ rk e rfl, dp⟩, dd, ?_⟩
    have g2 := en.get e
    cases q : dGet es kd with
    | none =>
      rw [q] at g2 h
      rw [show atKey ys k = none from g2]
      exact h x _ _ rx (I.tok _) rw'
    | some d =>
      rw [q] at g2 h
      obtain ⟨p, v, g3, g4, g5⟩ := g2
      rw [g3]
      exact h v _ _ g5 (I.tok _) g4
theorem dr_len {Q : Value → Shared → Prop} (I : Inv X pins σ H s) (D : DR X.K H a es) (ok : es.all (fun e => keyK e.1) = true ∨ es.all (fun e => keyT e.1) = true)
    (h : ∀ t s', Inv X pins σ H s' → Q (.int es.length t) s') : wpAny (model X.prog X.w) A (call (.builtin "len") [.ref a]) Q E s := by
  rcases ok with o2 | o2
  · obtain ⟨kvs, vs, rel, dd, hd, z, en⟩ := D.asK I o2
    have e1 := Paired.length rel
    have e2 := Paired.length en
    refine call_len_dict hd dd (by rw [sizeLine_eq] at z; omega) ?_
    rw [← e1, e2]
    exact h _ _ (I.tok _)
  · obtain ⟨ys, dd, hd, z, en⟩ := D.asT I o2
    have e2 := Paired.length en
    refine call_len_dictH hd dd (by rw [sizeLine_eq] at z; omega) ?_
    rw [e2]
    exact h _ _ (I.tok _)
/-- a dict of one's own -/
structure DRo (K : PySem.W.Frag) (H : Hp) (a : Addr) (es : List (PyData × PyData)) : Prop where
  ex : ∃ u xs, H a = some u ∧ DOf a u xs ∧ RpD K H xs es
theorem DRo.r {K : PySem.W.Frag} {H : Hp} (h : DRo K H a es) : DR K H a es := let ⟨u, xs, a, b, c⟩ := h.ex; ⟨u, xs, .inl a, b, c⟩
theorem Kp.putU {H : Hp} {a : Addr} {u u' : HO} (h : H a = some u) (mu : Mut (some u)) : Kp H (upd H a u') :=
  ⟨fun b ys q => by rw [upd_ne (ne_of q h (by rintro rfl; exact mu))]; exact q, fun b o' u' q => by rw [upd_ne (ne_of q h (by rintro rfl; exact mu))]; exact q⟩
theorem dput_len (es : List (PyData × PyData)) (k v : PyData) : (dPut es k v).length ≤ es.length + 1 := by
  unfold dPut
  split
  · rw [List.length_map]; omega
  · rw [List.length_append]; exact Nat.le_refl _
/-- a dict is written -/
theorem dro_putK (I : Inv X pins σ H s) (D : DRo X.K H a es) (z : es.length < sizeLine) {v : V} (rv : Rp X.K H v d) {k : Key} {kvs : List (Key × V)} {vs : List (Key × Value)} (rel : KV kvs vs) (hd : (a == sysModules) = false) (en : EnK X.K H kvs es) {h' : Heap} {t' : Nat} (dd : h'.DictOf (mixKind X.prog X.w) a (stored vs k w)) (hs : Heap.SameBut a s.heap h') (rw' : RelV v w) :
    ∃ u' xs', Inv X pins σ (upd H a u') { s with heap := h', toks := t' } ∧ Mut (some u') ∧ DOf a u' xs' ∧ RpD X.K (upd H a u') xs' (dPut es (kD k) d) ∧ Kp H (upd H a u') := by
  obtain ⟨u, xs, e1, e2, e3⟩ := D.ex
  have e4 := Paired.length en
  have he : ∃ q, h'.get? a = some q := let ⟨q, _, _, hq, _⟩ := dd; ⟨q, hq⟩
  have hl : (putK kvs k v).length ≤ sizeLine := by have := length_putK kvs k v; omega
  have kp : Kp H (upd H a (.dK (putK kvs k v))) := Kp.putU e1 e2.mut
  exact ⟨.dK (putK kvs k v), _, d_write I (by rw [e1]; exact e2.mut) hs he (dk_new hl hd (rel.put k rw') dd), trivial, .k _, RpD.kpP kp (en.put k rv).rpd, kp⟩
theorem dro_putT (I : Inv X pins σ H s) (D : DRo X.K H a es) (z : es.length < sizeLine) {v : V} (rv : Rp X.K H v d) {k : NestedKey} {b : Addr} (rk : Rp X.K H (.ref b) kd) (e : nkey kd = some k) (dp : k.depth ≤ 8) {ys : List (NestedKey × Addr × Value)} (hd : (a == sysModules) = false) (en : EnT X.K H ys es) {h' : Heap} {t' : Nat} (dd : h'.DictOfH (nestedKind X.prog X.w) a (storedH ys k b w)) (hs : Heap.SameBut a s.heap h') (rw' : RelV v w) :
    ∃ u' xs', Inv X pins σ (upd H a u') { s with heap := h', toks := t' } ∧ Mut (some u') ∧ DOf a u' xs' ∧ RpD X.K (upd H a u') xs' (dPut es kd d) ∧ Kp H (upd H a u') := by
  obtain ⟨u, xs, e1, e2, e3⟩ := D.ex
  have en2 := en.put e dp rk rw' rv
  obtain ⟨xs', p1, p2⟩ := en2.dat
  have e4 := Paired.length en2
  have e5 := Paired.length p1
  have e6 := dput_len es kd d
  obtain ⟨o, ds, ep, h1, h2, h3, h4, _, h5⟩ := dd
  have kp : Kp H (upd H a (DicO a xs')) := Kp.putU e1 e2.mut
  refine ⟨DicO a xs', _, d_write I (by rw [e1]; exact e2.mut) hs ⟨o, h1⟩ ⟨⟨by omega, hd, _, p1, o, ds, ep, h1, h2, h3, by rw [h4, ent_eq p1], h5⟩, ⟨o, h1⟩, ?_⟩, trivial, .t _, RpD.kpP kp p2, kp⟩
  rintro g1 g2 ⟨q1, q2, q3, q4, o', q5, q6, q7, q8⟩ hk
  exact ⟨q1, q2, q3, q4, o', q5, q6, hk _ q7, q8⟩
/-- a[y] = x -/
theorem dro_setItem {x : V} {Q : Unit → Shared → Prop} (hu : A.units + 10 < cLine) (I : Inv X pins σ H s) (D : DRo X.K H a es) (z : es.length < sizeLine) (rk : Rp X.K H y kd) (ok : kOk es kd = true) (ry : RelV y u) (rx : Rp X.K H x d) (rw' : RelV x w)
    (h : ∀ u' xs' s', Inv X pins σ (upd H a u') s' → Mut (some u') → DOf a u' xs' → RpD X.K (upd H a u') xs' (dPut es kd d) → Kp H (upd H a u') → Q () s') : wpAny (model X.prog X.w) A (setItem (.ref a) u w) Q E s := by
  rcases kOk_or ok with ⟨o1, o2⟩ | ⟨o1, o2⟩
  · obtain ⟨kvs, vs, rel, dd, hd, z2, en⟩ := D.r.asK I o2
    obtain ⟨k, rfl, rfl⟩ := keyK_ok o1 rk
    refine wpAny_setItem_pairs (hsz := by rw [← rel.length]; exact z2) (kV_is ry) dd fun h' dd' hs => ?_
    obtain ⟨u', xs', g1, g2, g3, g4, g5⟩ := dro_putK I D z rx rel hd en dd' hs rw'
    exact h u' xs' _ g1 g2 g3 g4 g5
  · obtain ⟨ys, dd, hd, z2, en⟩ := D.r.asT I o2
    obtain ⟨b, rfl⟩ := keyT_ref o1 rk
    obtain ⟨k, e, dp⟩ := keyT_ok o1
    cases (show u = Value.ref b from ry)
    refine wpAny_setItem_heap (hsz := z2) (room8 hu) ⟨nested_of I _ rk e rfl, dp⟩ dd fun h' dd' hs => ?_
    obtain ⟨u', xs', g1, g2, g3, g4, g5⟩ := dro_putT I D z rx rk e dp hd en dd' hs rw'
    exact h u' xs' _ g1 g2 g3 g4 g5
/-- a.setdefault(y, x) -/
theorem dro_setd {x : V} {xd : PyData} {Q : Value → Shared → Prop} (hu : A.units + 10 < cLine) (I : Inv X pins σ H s) (D : DRo X.K H a es) (z : es.length < sizeLine) (rk : Rp X.K H y kd) (ok : kOk es kd = true) (ry : RelV y u) (rx : Rp X.K H x xd) (rw' : RelV x w)
    (h1 : ∀ d v w' s', dGet es kd = some d → Rp X.K H v d → Inv X pins σ H s' → RelV v w' → Q w' s')
    (h2 : dGet es kd = none → ∀ u' xs' s', Inv X pins σ (upd H a u') s' → Mut (some u') → DOf a u' xs' → RpD X.K (upd H a u') xs' (dPut es kd xd) → Kp H (upd H a u') → Q w s') : wpAny (model X.prog X.w) A (call (.builtin "dict.setdefault") [.ref a, u, w]) Q E s := by
  rcases kOk_or ok with ⟨o1, o2⟩ | ⟨o1, o2⟩
  · obtain ⟨kvs, vs, rel, dd, hd, z2, en⟩ := D.r.asK I o2
    obtain ⟨k, rfl, rfl⟩ := keyK_ok o1 rk
    have g := en.get k
    refine call_meetsIn PySem.F.slot_dict_setdefault dd.typeIs PySem.F.entry_dict_setdefault (PySem.F.args_dict_setdefault_3 _ _ _) (kt_meets_setdefault (mixKind X.prog X.w) a (kV_is ry) hd w) ⟨vs, dd, by rw [← rel.length]; exact z2, fun v hv => ?_, fun hn h' dd' hs => ?_⟩
    · have q := rel.val k
      rw [hv] at q
      cases q0 : dGet es (kD k) with
      | none => rw [q0] at g; rw [show valV kvs k = none from g] at q; exact q.elim
      | some d0 =>
        rw [q0] at g
        obtain ⟨v0, g1, g2⟩ := g
        rw [g1] at q
        exact h1 d0 v0 _ _ q0 g2 (I.tok _) q
    · have q := rel.val k
      rw [hn] at q
      cases q0 : dGet es (kD k) with
      | some d0 => rw [q0] at g; obtain ⟨v0, g1, g2⟩ := g; rw [g1] at q; exact q.elim
      | none =>
        obtain ⟨u', xs', g1, g2, g3, g4, g5⟩ := dro_putK (t' := s.toks + 1) I D z rx rel hd en dd' hs rw'
        exact h2 q0 u' xs' _ g1 g2 g3 g4 g5
  · obtain ⟨ys, dd, hd, z2, en⟩ := D.r.asT I o2
    obtain ⟨b, rfl⟩ := keyT_ref o1 rk
    obtain ⟨k, e, dp⟩ := keyT_ok o1
    cases (show u = Value.ref b from ry)
    have g := en.get e
    refine call_setdefault_heap (hsz := z2) (room8 hu) ⟨nested_of I _ rk e rfl, dp⟩ hd dd (fun p hp => ?_) fun hn h' dd' hs => ?_
    · cases q0 : dGet es kd with
      | none => rw [q0] at g; rw [show atKey ys k = none from g] at hp; cases hp
      | some d0 =>
        rw [q0] at g
        obtain ⟨p0, v0, g1, g2, g3⟩ := g
        rw [hp] at g1; cases g1
        exact h1 d0 v0 _ _ q0 g3 (I.tok _) g2
    · cases q0 : dGet es kd with
      | some d0 => rw [q0] at g; obtain ⟨p0, v0, g1, g2, g3⟩ := g; rw [hn] at g1; cases g1
      | none =>
        obtain ⟨u', xs', g1, g2, g3, g4, g5⟩ := dro_putT (t' := s.toks + (nestedKind X.prog X.w).draws k) I D z rx rk e dp hd en dd' hs rw'
        exact h2 q0 u' xs' _ g1 g2 g3 g4 g5
end
end Tr
namespace Tr
open PySem PySem.Spec PyProof.Rows L2
/-! ### a slot's own thing is changed -/
theorem Rep.chgO {K : PySem.W.Frag} {σ : L2.St} {μ : Mu} {H : Hp} {F : FP} {st : St} (h : Rep K σ μ H F st) {i : Nat} {o : O} (e : st.loc[i]? = some (some o)) :
    ∃ v Fi, σ[i]? = some (some v) ∧ Own K μ H Fi v o ∧ (∀ b, Fi b → F b) ∧ ∀ H' o', (∀ b, ¬ Fi b → H' b = H b) → Kp H H' → (∀ b, H b ≠ none → H' b ≠ none) → Own K μ H' Fi v o' → Rep K σ μ H' F { st with loc := st.loc.set i (some o') } ∧ Ext H F H' F := by
  obtain ⟨S, R, h1, h2, h3, h4, h5, h6, h7⟩ := h.ex
  obtain ⟨v, q1, q2⟩ := h1 i _ e
  refine ⟨v, S i, q1, q2, h6 i, fun H' o' ou k lv ow => ⟨⟨⟨S, R, fun j o2 e' => ?_, fun k' c e' => ?_, h3, h4, h5, h6, h7⟩, fun b z => lv b (h.live b z), h.mu, ?_⟩, ⟨fun b u q n => ?_, k, fun b z => .inr z⟩⟩⟩
  · by_cases hj : i = j
    · subst hj
      have hi := (List.getElem?_eq_some_iff.mp e).1
      have e2 : (st.loc.set i (some o'))[i]? = some (some o2) := e'
      rw [List.getElem?_set_self hi] at e2
      cases e2
      exact ⟨_, q1, ow⟩
    · have e2 : (st.loc.set i (some o'))[j]? = some (some o2) := e'
      rw [List.getElem?_set_ne hj] at e2
      obtain ⟨w, r1, r2⟩ := h1 j o2 e2
      exact ⟨w, r1, r2.step (List.prefix_refl _) (fun b z => ou b fun w => hj (h3 i j b w z)) k⟩
  · obtain ⟨w, r1, r2⟩ := h2 k' c e'
    exact ⟨w, r1, r2.step (List.prefix_refl _) (fun b z => ou b fun w' => h5 i k' b w' z) k⟩
  · show (st.loc.set i _).length = _
    rw [List.length_set]; exact h.len
  · rw [ou b fun w' => n (h6 i b w')]; exact q
/-- what a slot holds as a dict -/
@[simp] def dctO : O → Option (List (PyData × PyData))
  | .d (.dict es) => some es
  | .dct es => some es
  | _ => none
section
variable {K : PySem.W.Frag} {μ : Mu} {H : Hp} {F : FP} {v : V} {o : O} {es : List (PyData × PyData)}
theorem Own.dr (h : Own K μ H F v o) (e : dctO o = some es) : ∃ a, v = .ref a ∧ DR K H a es := by
  cases h with
  | d r =>
    cases r with
    | dct a b c => cases e; exact ⟨_, rfl, ⟨_, _, .inr ⟨_, a⟩, b, c⟩⟩
    | _ => cases e
  | dct a b c d => cases e; exact ⟨_, rfl, ⟨_, _, .inl a, b, c⟩⟩
  | _ => cases e
theorem Own.dro (h : Own K μ H F v (.dct es)) : ∃ a, v = .ref a ∧ DRo K H a es ∧ F a := by
  cases h with
  | dct a b c d => exact ⟨_, rfl, ⟨_, _, a, b, c⟩, d⟩
end
/-- .. its dict -/
theorem Rep.chgD {K : PySem.W.Frag} {σ : L2.St} {μ : Mu} {H : Hp} {F : FP} {st : St} (h : Rep K σ μ H F st) {i : Nat} {es : List (PyData × PyData)} (e : st.loc[i]? = some (some (.dct es))) :
    ∃ a, σ[i]? = some (some (.ref a)) ∧ DRo K H a es ∧ F a ∧ ∀ u' xs' es', Mut (some u') → DOf a u' xs' → RpD K (upd H a u') xs' es' → Kp H (upd H a u') → Rep K σ μ (upd H a u') F { st with loc := st.loc.set i (some (.dct es')) } ∧ Ext H F (upd H a u') F := by
  obtain ⟨v, Fi, h1, h2, h3, h4⟩ := h.chgO e
  obtain ⟨a, rfl, D, fa⟩ := h2.dro
  refine ⟨a, h1, D, h3 a fa, fun u' xs' es' mu d r k => ?_⟩
  refine h4 _ (.dct es') (fun b n => upd_ne fun z => n (z ▸ fa)) k (fun b n => ?_) (.dct upd_same d r fa)
  by_cases z : b = a
  · subst z; rw [upd_same]; simp
  · rw [upd_ne z]; exact n
theorem hu10 {n : Nat} (h : n + 65 < cLine) : n + 10 < cLine := by omega
/-! ### d[k], k in d, by values -/
section
variable {X : Cx}
theorem DR.ty {pins : List (Addr × Obj)} {σ : L2.St} {H : Hp} {s : Shared} {a : Addr} {es : List (PyData × PyData)} (I : Inv X pins σ H s) (D : DR X.K H a es) (ok : es.all (fun e => keyK e.1) = true ∨ es.all (fun e => keyT e.1) = true) :
    s.TypeIs (.ref a) "dict" ∧ (∀ b, Value.ref a = .ref b → ∃ ob, s.heap.get? b = some ob ∧ ob.dict = none) := by
  rcases ok with o | o
  · obtain ⟨kvs, vs, rel, dd, hd, z, en⟩ := D.asK I o
    refine ⟨dd.typeIs, fun b q => ?_⟩
    cases q
    obtain ⟨ob, _, _, h1, h2, _⟩ := dd
    exact ⟨ob, h1, h2.2.1⟩
  · obtain ⟨ys, dd, hd, z, en⟩ := D.asT I o
    refine ⟨dd.typeIs, fun b q => ?_⟩
    cases q
    obtain ⟨ob, _, _, h1, h2, _⟩ := dd
    exact ⟨ob, h1, h2.2.1⟩
theorem kOk_all {es : List (PyData × PyData)} {k : PyData} (h : kOk es k = true) : es.all (fun e => keyK e.1) = true ∨ es.all (fun e => keyT e.1) = true := (kOk_or h).imp (·.2) (·.2)
def rIxDc (K : PySem.W.Frag) : R2 := fun x y H Q => ∃ a es kd d, x = .ref a ∧ DR K H a es ∧ Rp K H y kd ∧ kOk es kd = true ∧ dGet es kd = some d ∧ ∀ v, Rp K H v d → Q v H
theorem ix_dct (hu : X.A.units + 65 < cLine) : IxR X (rIxDc X.K) := by
  intro value slice pins s σ H x y v u Q I rx ry h hs
  obtain ⟨a, es, kd, d, rfl, D, rk, ok, g, q⟩ := h
  cases rx
  exact tail_any (D.ty I (kOk_all ok)).1 PySem.F.slot_dict_getitem.lookup (dr_getItem (hu10 hu) I D rk ok g ry fun v w' s' r I' rw' => ⟨v, H, I', rw', q v r⟩) hs
@[simp] def oIxD : O → O → Option O := fun a b => match dctO a, b with
  | some es, .d kd => if kOk es kd then (dGet es kd).map O.d else none
  | _, _ => none
theorem v2_ixD {K : PySem.W.Frag} : V2 K (rIxDc K) oIxD := ⟨fun μ H F1 F2 x y a b o Q o1 o2 e f => by
  unfold oIxD at e
  split at e
  · rename_i es kd e1
    split at e
    · rename_i ok
      obtain ⟨d, e2, rfl⟩ := Option.map_eq_some_iff.mp e
      obtain ⟨p, rfl, D⟩ := o1.dr e1
      exact ⟨p, es, kd, d, rfl, D, o2.rp, ok, e2, fun v r => f.datum r⟩
    · cases e
  · cases e⟩
@[simp] def oIxX : O → O → Option O := orO oIx oIxD
abbrev rIx3 (K : PySem.W.Frag) : R2 := fun x y H Q => rIx2 K x y H Q ∨ rIxDc K x y H Q
theorem ix_3 (hu : X.A.units + 65 < cLine) : IxR X (rIx3 X.K) := ix_2.or (ix_dct hu)
theorem v2_ix3 {K : PySem.W.Frag} : V2 K (rIx3 K) oIxX := v2_ix.or v2_ixD
variable {W : WX} {a b c e ie : Expr} {es : List Expr} {fa fb fc f fi : XE} {pos p apos cpos p2 : Pos} {σ : L2.St} {H : Hp} {st : St} {F : FP} {μ : Mu}
theorem eixX (hu : X.A.units + 65 < cLine) (ha : SE X W a fa) (hb : SE X W b fb) (hs : PlainIx b := by exact fun _ _ => rfl) : SE X W (.Subscript a b pos) (xOp2 oIxX fa fb) := se_ix (ix_3 hu) v2_ix3 ha hb hs
theorem eixvX (hu : X.A.units + 65 < cLine) (i : Nat) (ha : PE X a (tVar i)) (hb : SE X W b fb) (hs : PlainIx b := by exact fun _ _ => rfl) : SE X W (.Subscript a b pos) (xOp2v oIxX i fb) := se_ixv i (ix_3 hu) v2_ix3 ha hb hs
def rInDc (K : PySem.W.Frag) (neg : Bool) : R2 := fun x y H Q => ∃ a es kd, y = .ref a ∧ DR K H a es ∧ Rp K H x kd ∧ kOk es kd = true ∧ Q (.bl (neg ^^ dHas es kd)) H
theorem op_inDc (hu : X.A.units + 65 < cLine) : OpR X (compareOp .In) (rInDc X.K false) := by
  intro pins s σ H x y v u Q I rx ry h
  obtain ⟨a, es, kd, rfl, D, rk, ok, q⟩ := h
  cases ry
  rw [Bool.false_xor] at q
  exact dr_in (hu10 hu) I D rk ok rx fun s' I' => ⟨.bl _, H, I', rfl, q⟩
theorem op_notInDc (hu : X.A.units + 65 < cLine) : OpR X (compareOp .NotIn) (rInDc X.K true) := by
  intro pins s σ H x y v u Q I rx ry h
  obtain ⟨a, es, kd, rfl, D, rk, ok, q⟩ := h
  cases ry
  rw [Bool.true_xor] at q
  exact dr_notIn (hu10 hu) I D rk ok rx fun s' I' => ⟨.bl _, H, I', rfl, q⟩
@[simp] def oInDc (neg : Bool) : O → O → Option O := fun a b => match a, dctO b with
  | .d kd, some es => if kOk es kd then some (.d (.bool (neg ^^ dHas es kd))) else none
  | _, _ => none
theorem v2_inDc {K : PySem.W.Frag} (neg : Bool) : V2 K (rInDc K neg) (oInDc neg) := ⟨fun μ H F1 F2 x y a b o Q o1 o2 e f => by
  unfold oInDc at e
  split at e
  · rename_i kd es e1
    split at e
    · rename_i ok
      cases e
      obtain ⟨p, rfl, D⟩ := o2.dr e1
      exact ⟨p, es, kd, rfl, D, o1.rp, ok, f.datum (.bl _)⟩
    · cases e
  · cases e⟩
abbrev oInX : O → O → Option O := orO oIn (oInDc false)
abbrev oNotInX : O → O → Option O := orO oNotIn (oInDc true)
theorem cr_inX (hu : X.A.units + 65 < cLine) : CR X .In oInX := let ⟨r, h1, h2⟩ := (cr_in (X := X) hu).ex; ⟨fun x y H Q => r x y H Q ∨ rInDc X.K false x y H Q, h1.or (op_inDc hu), h2.or (v2_inDc false)⟩
theorem cr_notinX (hu : X.A.units + 65 < cLine) : CR X .NotIn oNotInX := let ⟨r, h1, h2⟩ := (cr_notin (X := X) hu).ex; ⟨fun x y H Q => r x y H Q ∨ rInDc X.K true x y H Q, h1.or (op_notInDc hu), h2.or (v2_inDc true)⟩
/-! ### {} -/
def xDNew : XE := fun st => .ok (.dct []) st
theorem se_dnew : SE X W (.Dict [] [] pos) xDNew := by
  refine ⟨PE.imp pe_dnewK fun σ H Q ⟨st, F, μ, rep, q⟩ p np => ?_⟩
  have g : ∀ b u, H b = some u → (upd H p (.dK [])) b = some u := fun b u z => by rw [upd_ne (ne_of_none z np)]; exact z
  have fin : Fin X.K μ H (.dct []) Q := Aft.fin (G := fun _ => False) q (List.prefix_refl _) rep (Ext.refl fun a z => z.elim False.elim id)
  exact fin _ _ (fun a => a = p) g (.dct upd_same (.k []) .nil rfl) fun b z => by subst z; exact ⟨np, by rw [upd_same]; simp⟩
/-! ### d[k] = e of a slot's dict -/
def rSetDc (K : PySem.W.Frag) : TSet := fun o i v H Q => ∃ a es kd d, o = .ref a ∧ DRo K H a es ∧ es.length < sizeLine ∧ Rp K H i kd ∧ kOk es kd = true ∧ Rp K H v d ∧ ∀ u' xs', Mut (some u') → DOf a u' xs' → RpD K (upd H a u') xs' (dPut es kd d) → Kp H (upd H a u') → Q (upd H a u')
theorem set_dct (hu : X.A.units + 65 < cLine) : PSet X (rSetDc X.K) := by
  intro pins s σ H o i v ov iv u Q I ro ri rv h
  obtain ⟨a, es, kd, d, rfl, D, z, rk, ok, rd, q⟩ := h
  cases ro
  exact dro_setItem (hu10 hu) I D z rk ok ri rd rv fun u' xs' s' I' mu dd r k => ⟨_, I', q u' xs' mu dd r k⟩
@[simp] def isDc : Option (Option O) → Bool
  | some (some (.dct _)) => true
  | _ => false
@[simp] def setDAt (n : Nat) (o i : O) (st : St) : Option St := match frz o, i, st.loc[n]? with
  | .d y, .d k, some (some (.dct es)) => if kOk es k && small es.length then some { st with loc := st.loc.set n (some (.dct (dPut es k y))) } else none
  | _, _, _ => none
@[simp] def sSetD (n : Nat) (f fi : XE) : XS := fun st => bindO (xFz f st) fun o st => if isV st.loc[n]? then bindO (fi st) fun i st => endO (setDAt n o i st) else .no
theorem ss_setD (hu : X.A.units + 65 < cLine) (n : Nat) (h : SE X W e f) (ho : PE X a (tVar n)) (hi : SE X W ie fi) {tp : Pos} (hs : swapsWithSole [.Subscript a ie tp] e pos.line X.env = pure false := by rfl) (hw : swappedStores [.Subscript a ie tp] e X.env = pure none := by rfl)
    (h1 : (assignEach [.Subscript a ie tp] X.env).map (·.2) = [assign (.Subscript a ie tp) X.env] := by rfl)
    (ha : ∀ v, assign (.Subscript a ie tp) X.env v = (do
      let ov ← holding [v] (eval a X.env)
      let iv ← holding [v, ov] (eval ie X.env)
      standAt tp
      holding [v, ov, iv] (setItem ov iv v)
      release [v, ov, iv] []) := by intro _; rfl) :
    SS X W (.Assign [.Subscript a ie tp] e pos) (sSetD n f fi) := by
  refine ⟨PS.imp (ps_asg (se_fz h).pe (pg_sub ho hi.pe (set_dct hu) ha) hs hw h1) fun D σ H ⟨st, F, μ, rep, q⟩ => ?_⟩
  refine ⟨st, F, μ, rep, AftS.bind q fun o st1 v H1 μ1 Fv1 F1 eo m1 r1 rep1 dj1 lv1 x1 h2 => ?_⟩
  split at h2
  · rename_i hl
    have X1 : Ext H F H1 F1 := x1.imp fun a z => .inr z
    obtain ⟨ov, g1⟩ := isV_ok rep1 hl
    refine ⟨ov, g1, st1, F1, μ1, rep1, AftS.bind2 (Fv := fun _ => False) h2 m1 (X1.imp fun a z => z.elim False.elim id) fun iv st2 iw H2 μ2 Fv2 F2 e2 m2 r2 rep2 dj2 lv2 x2 h3 => ?_⟩
    have fo := xFz_frz _ _ _ eo
    cases es : setDAt n o iv st2 with
    | none => rw [es] at h3; exact h3.elim
    | some st3 =>
      rw [es] at h3
      unfold setDAt at es
      rw [fo] at es
      split at es
      · rename_i y k ds el
        split at es
        · rename_i ok
          obtain ⟨ok1, ok2⟩ := Bool.and_eq_true_iff.mp ok
          cases es
          obtain ⟨a', c1, c2, c3, c4⟩ := rep2.chgD el
          rw [g1] at c1; cases c1
          exact ⟨a', ds, k, y, rfl, c2, small_lt ok2, r2.rp, ok1, r1.rp.kp x2.kp, fun u' xs' mu dd r kp => by
            obtain ⟨c5, c6⟩ := c4 u' xs' _ mu dd r kp
            exact h3 σ _ μ2 F2 (m1.trans m2) c5 ((X1.trans (x2.imp fun a z => .inr z)).trans c6)⟩
        · cases es
      · cases es
  · exact h2.elim
end
end Tr
namespace Tr
open PySem PySem.Spec PyProof.Rows L2
section
variable {X : Cx} {W : WX} {a b c e ie o : Expr} {es : List Expr} {fa fb fc f fi : XE} {pos p apos cpos p2 : Pos} {σ : L2.St} {H : Hp} {st : St} {F : FP} {μ : Mu}
/-! ### x.pop() of a slot's list -/
def popAt (i : Nat) (st : St) : Option (PyData × St) := match st.loc[i]? with
  | some (some (.lst xs)) => match xs[xs.length - 1]? with
    | some y => some (y, { st with loc := st.loc.set i (some (.lst xs.dropLast)) })
    | none => none
  | _ => none
def xPop (i : Nat) : XE := fun st => match popAt i st with
  | some (y, st) => .ok (.d y) st
  | none => .no
theorem RpL.dropLast {K : PySem.W.Frag} {H : Hp} : ∀ {vs : List V} {ds : List PyData}, RpL K H vs ds → RpL K H vs.dropLast ds.dropLast
  | _, _, .nil => .nil
  | _, _, .cons a .nil => .nil
  | _, _, .cons a (.cons b c) => .cons a (RpL.dropLast (.cons b c))
theorem se_pop (i : Nat) (ho : PE X o (tVar i)) (hbase : attributeBase o "pop" X.env (eval o X.env) = eval o X.env := by rfl) (hline : (apos.endLine == cpos.line) = true := by rfl) : SE X W (.Call (.Attribute o "pop" apos) [] [] cpos) (xPop i) := by
  refine ⟨PE.imp (pe_bm0 PySem.F.plainAttrs_list PySem.F.slot_list_pop PySem.F.type_list_pop mt_pop ho hbase hline) fun σ H Q ⟨st, F, μ, rep, q⟩ => ?_⟩
  unfold xPop popAt at q
  cases el : st.loc[i]? with
  | none => rw [el] at q; exact q.elim
  | some o =>
    cases o with
    | none => rw [el] at q; exact q.elim
    | some o =>
      cases o with
      | lst ds =>
        rw [el] at q
        dsimp only at q
        obtain ⟨a', xs, g1, g2, g3, g4, g5⟩ := rep.chg el
        cases ey : ds[ds.length - 1]? with
        | none => rw [ey] at q; exact q.elim
        | some y =>
          rw [ey] at q
          dsimp only at q
          obtain ⟨v, k1, k2⟩ := g3.get ey
          obtain ⟨k, g6, g7⟩ := g5 _ _ g3.dropLast
          rw [← g3.length] at k1
          exact ⟨_, g1, .inl ⟨rfl, xs, SqL.of g2⟩, _, xs, v, rfl, rfl, g2, k1, q _ _ μ (fun _ => False) F (List.prefix_refl _) (.d (k2.kpP k)) g6 (fun _ z => z.elim) (fun _ z => z.elim) (g7.imp fun a z => z.elim False.elim id)⟩
      | _ => rw [el] at q; exact q.elim
/-! ### sorted(x) -/
def tupNE : PyData → Bool
  | .tuple (_ :: _) => true
  | _ => false
def noTup : PyData → Bool
  | .tuple _ => false
  | .none => false
  | _ => true
def sortOk (ds : List PyData) : Bool := (ds.all fun d => ds.all fun d' => PySem.W.alike d d') && ((ds.all tupNE || ds.all noTup) && (small ds.length && ds.all fun d => shp d && decide (d.depth ≤ 50)))
def sortD (ds : List PyData) : List PyData := ds.mergeSort (PySem.W.dataLe false id)
def rSortD (K : PySem.W.Frag) : List V → Hp → VK → Prop := fun vs H Q => ∃ (a : Addr) (xs : List V) (ds : List PyData), vs = [V.ref a] ∧ SqL K H a xs ∧ RpL K H xs ds ∧ sortOk ds = true ∧
  ∀ (p : Addr) (ys : List V), H p = none → RpL K H ys (sortD ds) → Q (.ref p) (upd H p (.lst ys))
theorem each_of {K : PySem.W.Frag} {H : Hp} : ∀ {vs : List V} {us : List Value} {ds : List PyData}, Vals vs us → RpL K H vs ds → PySem.W.EachIs (fun (u : Value) (b : V × PyData) => RelV b.1 u ∧ Rp K H b.1 b.2) us (vs.zip ds)
  | _, _, _, .nil, .nil => .nil
  | _, _, _, .cons a b, .cons c d => .cons ⟨a, c⟩ (each_of b d)
theorem zip_snd {K : PySem.W.Frag} {H : Hp} : ∀ {vs : List V} {ds : List PyData}, RpL K H vs ds → (vs.zip ds).map (·.2) = ds
  | _, _, .nil => rfl
  | _, _, .cons a b => by rw [List.zip_cons_cons, List.map_cons, zip_snd b]
theorem of_each {K : PySem.W.Frag} {H : Hp} : ∀ {us : List Value} {bs : List (V × PyData)}, PySem.W.EachIs (fun (u : Value) (b : V × PyData) => RelV b.1 u ∧ Rp K H b.1 b.2) us bs → Vals (bs.map (·.1)) us ∧ RpL K H (bs.map (·.1)) (bs.map (·.2))
  | _, _, .nil => ⟨.nil, .nil⟩
  | _, _, .cons a b => ⟨.cons a.1 (of_each b).1, .cons a.2 (of_each b).2⟩
theorem cr_sortD (hu : X.A.units + 65 < cLine) : CallR X (.builtin "sorted") (rSortD X.K) := by
  intro pins s σ H vs us Q I r h
  obtain ⟨a, xs, ds, rfl, hs, rl, ok, q⟩ := h
  obtain ⟨its, rv, hl, hz⟩ := I.list hs
  rw [Vals.ref1 r]
  unfold sortOk at ok
  simp only [Bool.and_eq_true, Bool.or_eq_true, List.all_eq_true, decide_eq_true_eq] at ok
  obtain ⟨o1, o2, o3, o4⟩ := ok
  have ez := zip_snd rl
  have mem : ∀ b, b ∈ xs.zip ds → b.2 ∈ ds := fun b hb => by rw [← ez]; exact List.mem_map.mpr ⟨b, hb, rfl⟩
  refine PySem.W.sorted_data (enc := fun b : V × PyData => b.2) hl.isList (each_of rv rl) ?_ (by rw [ez]; exact fun d hd d' hd' => o1 d hd d' hd') ?_ (by rw [List.length_zip, rl.length]; simpa using small_line o3) (fun b hb => ?_) fun out ho eo => ?_
  · refine (PySem.W.each_mem (each_of rv rl)).mono fun v b ⟨⟨h1, h2⟩, hb⟩ => ?_
    have sh := (o4 _ (mem b hb)).1
    exact Dp.reads I b.2 b.1 v (Rp.dp _ (SeqAt.canLay_of_shaped sh) h2) h1
  · rw [ez]
    rcases o2 with o2 | o2
    · left
      intro d hd
      have := o2 d hd
      unfold tupNE at this
      split at this
      · exact ⟨_, _, rfl⟩
      · cases this
    · right
      intro d hd
      have := o2 d hd
      exact ⟨fun z => (by subst z; cases this), fun xs z => (by subst z; cases this)⟩
  · have := (o4 _ (mem b hb)).2
    omega
  · obtain ⟨k1, k2⟩ := of_each eo
    obtain ⟨ep, he'⟩ := PyProof.Rows.sortedAll_at s.heap its out.toArray
    have hlen : (((xs.zip ds).mergeSort (PySem.W.dataLe false fun b => b.2)).map (·.1)).length ≤ sizeLine := by
      rw [List.length_map, List.length_mergeSort, List.length_zip, rl.length]; simpa using small_line o3
    have es : ((xs.zip ds).mergeSort (PySem.W.dataLe false fun b => b.2)).map (·.2) = sortD ds := by
      rw [PySem.W.sort_maps (fun b : V × PyData => b.2) (r := PySem.W.dataLe false fun b => b.2) (s := PySem.W.dataLe false id) (fun _ _ _ _ => rfl), ez]; rfl
    rw [es] at k2
    exact ⟨.ref _, upd H (s.heap.objs.size + 1) (.lst _), I.laid (t' := s.toks) (fun _ _ => PyProof.Rows.sortedAll_old) (Nat.le_succ _) ⟨hlen, out, ep, k1, he'⟩, rfl, q _ _ (I.hok.fresh (Nat.le_succ _)) k2⟩
def sortC : List O → Option O := one fun a => (listO a).bind fun ds => if sortOk ds then some (.lst (sortD ds)) else none
theorem vc_sort {K : PySem.W.Frag} : VC K (rSortD K) sortC := vc_one fun μ H v a o Q p e f => by
  obtain ⟨ds, e2, e3⟩ := Option.bind_eq_some_iff.mp e
  split at e3
  · rename_i ok
    cases e3
    obtain ⟨q, xs, rfl, h, r⟩ := p.list e2
    exact ⟨q, xs, ds, rfl, Rd.sq h, r, ok, fun p' ys np rl => f.list rl p' np⟩
  · cases e3
/-! ### len(d) -/
@[simp] def lenDO (a : O) : Option PyData := match dctO a with
  | some es => if (es.all fun e => keyK e.1) || (es.all fun e => keyT e.1) then some (.int es.length) else none
  | none => none
abbrev rLenX (K : PySem.W.Frag) : List V → Hp → VK → Prop := fun xs H Q => ∃ a es, xs = [.ref a] ∧ DR K H a es ∧ ((es.all fun e => keyK e.1) = true ∨ (es.all fun e => keyT e.1) = true) ∧ Q (.int es.length) H
theorem call_lenD : CallR X (.builtin "len") (rLenX X.K) := by
  intro pins s σ H xs us Q I r h
  obtain ⟨a, es, rfl, D, ok, q⟩ := h
  rw [Vals.ref1 r]
  exact dr_len I D ok fun t s' I' => ⟨.int _, H, I', ⟨t, rfl⟩, q⟩
theorem vcw_lenD {K : PySem.W.Frag} : VCw K (rLenX K) lenDO := ⟨fun μ H F v a d Q o1 e f => by
  unfold lenDO at e
  split at e
  · rename_i es e1
    split at e
    · rename_i ok
      cases e
      obtain ⟨p, rfl, D⟩ := o1.dr e1
      exact ⟨p, es, rfl, D, by simpa only [Bool.or_eq_true] using ok, f _ (.int _)⟩
    · cases e
  · cases e⟩
def lenDC : List O → Option O := one fun a => (lenDO a).map O.d
theorem vc_lenD {K : PySem.W.Frag} : VC K (rLenX K) lenDC := vc_w vcw_lenD
/-! ### d.get(k, x) -/
theorem pe_get2N {td : TE} {ty tx : TE} (hu : X.A.units + 65 < cLine) (ho : PE X o td) (he : PE X e ty) (hf : PE X b tx) (m : M2 X o "get" apos e b cpos) : PE X (.Call (.Attribute o "get" apos) [e, b] [] cpos) (fun σ H Q => td σ H fun x H1 => ∃ a es, x = .ref a ∧ DR X.K H1 a es ∧ ((es.all fun e => keyK e.1) = true ∨ (es.all fun e => keyT e.1) = true) ∧
    ty σ H1 fun y H2 => tx σ H2 fun z H3 => ∃ es kd xd, DR X.K H3 a es ∧ Rp X.K H3 y kd ∧ kOk es kd = true ∧ Rp X.K H3 z xd ∧ ∀ v, Rp X.K H3 v ((dGet es kd).getD xd) → Q v H3) := by
  refine ⟨fun pins s σ H Q I h => ?_⟩
  refine wpAny_Call_method m.base m.few m.line PySem.F.plainAttrs_dict PySem.F.slot_dict_get PySem.F.type_dict_get (thn (ho.run pins s σ H _ I h) fun u s1 ⟨x, H1, I1, rx, a, es, ex, d, ok, q1⟩ => ?_)
  subst ex
  obtain rfl : u = Value.ref a := rx
  obtain ⟨t1, t2⟩ := d.ty I1 ok
  refine ⟨t1, t2, ?_⟩
  rw [m.trees]
  refine Calls.callWith_builtin rfl (Calls.evalArgs_plain (Calls.spliced_cons (thn (he.run pins s1 σ H1 _ I1 q1) fun iv s2 ⟨y, H2, I2, ry, q2⟩ =>
    Calls.spliced_cons (thn (hf.run pins s2 σ H2 _ I2 q2) fun fv s3 ⟨z, H3, I3, rz, es, kd, xd, D, rk, ok, rd, q3⟩ => Calls.spliced_nil ?_))))
  exact dr_get2 (hu10 hu) I3 D rk ok ry rd rz fun v w' s' r I' rw' => ⟨v, H3, I', rw', q3 v r⟩
@[simp] def getD2 (o k x : O) : Option PyData := match dctO o, k, frz x with
  | some es, .d kd, .d xd => if kOk es kd then some ((dGet es kd).getD xd) else none
  | _, _, _ => none
@[simp] def dcOk (o : O) : Bool := match dctO o with
  | some es => (es.all fun e => keyK e.1) || (es.all fun e => keyT e.1)
  | none => false
/-- .. of a slot's, read where it stands -/
def xGetv (i : Nat) (fk fx : XE) : XE := fun st => match st.loc[i]? with
  | some (some o) => if dcOk o then bindO (fk st) fun k st => bindO (xFz fx st) fun x st => match st.loc[i]? with
    | some (some o) => match getD2 o k x with
      | some d => .ok (.d d) st
      | none => .no
    | _ => .no
    else .no
  | _ => .no
theorem dcOk_dr {K : PySem.W.Frag} {μ : Mu} {H : Hp} {F : FP} {v : V} {o : O} (h : Own K μ H F v o) (ok : dcOk o = true) : ∃ a es, v = .ref a ∧ DR K H a es ∧ ((es.all fun e => keyK e.1) = true ∨ (es.all fun e => keyT e.1) = true) := by
  unfold dcOk at ok
  split at ok
  · rename_i es e
    obtain ⟨a, rfl, D⟩ := h.dr e
    exact ⟨a, es, rfl, D, by simpa only [Bool.or_eq_true] using ok⟩
  · cases ok
theorem getD2_some {o k x : O} {d : PyData} (h : getD2 o k x = some d) : ∃ es kd xd, dctO o = some es ∧ k = .d kd ∧ frz x = .d xd ∧ kOk es kd = true ∧ d = (dGet es kd).getD xd := by
  unfold getD2 at h
  split at h
  · split at h
    · cases h; exact ⟨_, _, _, by assumption, rfl, by assumption, by assumption, rfl⟩
    · cases h
  · cases h
theorem se_getv (hu : X.A.units + 65 < cLine) (i : Nat) (ho : PE X o (tVar i)) (hk : SE X W e fa) (hx : SE X W b fb) (m : M2 X o "get" apos e b cpos) : SE X W (.Call (.Attribute o "get" apos) [e, b] [] cpos) (xGetv i fa fb) := by
  refine ⟨PE.imp (pe_get2N hu ho hk.pe (se_fz hx).pe m) fun σ H Q ⟨st, F, μ, rep, q⟩ => ?_⟩
  unfold xGetv at q
  split at q
  · rename_i o0 e0
    split at q
    · rename_i ok0
      obtain ⟨v, h1, w0⟩ := rep.slot e0
      obtain ⟨a, es0, rfl, D0, oo⟩ := dcOk_dr w0 ok0
      refine ⟨_, h1, a, es0, rfl, D0, oo, st, F, μ, rep, Aft.bind (Fv := fun _ => False) q (List.prefix_refl _) (Ext.refl fun a z => z.elim False.elim id) fun k st1 v1 H1 μ1 Fv1 F1 e1 m1 r1 rep1 d1 l1 x1 q1 => ?_⟩
      refine ⟨st1, F1, μ1, rep1, Aft.bind (Fv := Fv1) q1 m1 x1 fun x st2 v2 H2 μ2 Fv2 F2 e2 m2 r2 rep2 d2 l2 x2 q2 => ?_⟩
      split at q2
      · rename_i o2 el
        split at q2
        · rename_i d eg
          obtain ⟨es, kd, xd, g1, rfl, g3, g4, rfl⟩ := getD2_some eg
          rw [xFz_frz _ _ _ e2] at g3
          subst g3
          obtain ⟨v', h2, w1⟩ := rep2.slot el
          rw [h1] at h2; cases h2
          obtain ⟨a', ea, D⟩ := w1.dr g1
          cases ea
          exact ⟨es, kd, xd, D, r1.rp.kp x2.kp, g4, r2.rp, fun v r => (Aft.fin (G := fun a => Fv1 a ∨ Fv2 a) q2 (m1.trans m2) rep2 (x1.trans ((x2.frame (G := Fv1)).imp fun a z => by rcases z with (z | z) | z; exact .inl z; exact .inr (.inl z); exact .inr (.inr z)))).datum r⟩
        · exact q2.elim
      · exact q2.elim
    · exact q.elim
  · exact q.elim
/-- .. of a value -/
def xGet (fo fk fx : XE) : XE := fun st => bindO (xFz fo st) fun o st => if dcOk o then bindO (fk st) fun k st => bindO (xFz fx st) fun x st => match getD2 o k x with
      | some d => .ok (.d d) st
      | none => .no
    else .no
theorem se_get (hu : X.A.units + 65 < cLine) (ho : SE X W o f) (hk : SE X W e fa) (hx : SE X W b fb) (m : M2 X o "get" apos e b cpos) : SE X W (.Call (.Attribute o "get" apos) [e, b] [] cpos) (xGet f fa fb) := by
  refine ⟨PE.imp (pe_get2N hu (se_fz ho).pe hk.pe (se_fz hx).pe m) fun σ H Q ⟨st, F, μ, rep, q⟩ => ?_⟩
  unfold xGet at q
  refine ⟨st, F, μ, rep, Aft.bind (Fv := fun _ => False) q (List.prefix_refl _) (Ext.refl fun a z => z.elim False.elim id) fun o0 st0 v0 H0 μ0 Fv0 F0 e0 m0 r0 rep0 d0 l0 x0 q0 => ?_⟩
  split at q0
  · rename_i ok0
    obtain ⟨a, es0, rfl, D0, oo⟩ := dcOk_dr r0 ok0
    refine ⟨a, es0, rfl, D0, oo, st0, F0, μ0, rep0, Aft.bind (Fv := Fv0) q0 m0 x0 fun k st1 v1 H1 μ1 Fv1 F1 e1 m1 r1 rep1 d1 l1 x1 q1 => ?_⟩
    have s1 := keepF x1 d0 l0
    have X1 : Ext H F H1 (fun a => (Fv0 a ∨ Fv1 a) ∨ F1 a) := x0.trans ((x1.frame (G := Fv0)).imp fun a z => by rcases z with (z | z) | z; exact .inl z; exact .inr (.inl z); exact .inr (.inr z))
    refine ⟨st1, F1, μ1, rep1, Aft.bind (Fv := fun a => Fv0 a ∨ Fv1 a) q1 (m0.trans m1) X1 fun x st2 v2 H2 μ2 Fv2 F2 e2 m2 r2 rep2 d2 l2 x2 q2 => ?_⟩
    split at q2
    · rename_i d eg
      obtain ⟨es, kd, xd, g1, rfl, g3, g4, rfl⟩ := getD2_some eg
      rw [xFz_frz _ _ _ e2] at g3
      subst g3
      have r00 : Own X.K μ0 H0 (fun _ => False) (.ref a) o0 := by
        have := xFz_frz _ _ _ e0
        cases r0 with
        | d r => exact .d r
        | obj r => exact .obj r
        | dct _ _ _ _ => exact nomatch this
        | _ => cases g1
      have r02 := r00.step (m1.trans m2) (fun _ z => z.elim) (x1.kp.trans x2.kp)
      obtain ⟨a', ea, D⟩ := r02.dr g1
      cases ea
      exact ⟨es, kd, xd, D, r1.rp.kp x2.kp, g4, r2.rp, fun v r => (Aft.fin (G := fun a => (Fv0 a ∨ Fv1 a) ∨ Fv2 a) q2 ((m0.trans m1).trans m2) rep2 (X1.trans ((x2.frame (G := fun a => Fv0 a ∨ Fv1 a)).imp fun a z => by rcases z with (z | z) | z; exact .inl z; exact .inr (.inl z); exact .inr (.inr z)))).datum r⟩
    · exact q2.elim
  · exact q0.elim
/-! ### d.setdefault(k, x) -/
def setdAt (i : Nat) (k x : O) (st : St) : Option (PyData × St) := match st.loc[i]?, k, x with
  | some (some (.dct es)), .d kd, .d xd => if kOk es kd && small es.length then match dGet es kd with
    | some d => some (d, st)
    | none => some (xd, { st with loc := st.loc.set i (some (.dct (dPut es kd xd))) })
    else none
  | _, _, _ => none
def xSetd (i : Nat) (fk fx : XE) : XE := fun st => match st.loc[i]? with
  | some (some o) => if dcOk o then bindO (fk st) fun k st => bindO (xFz fx st) fun x st => match setdAt i k x st with
      | some (d, st) => .ok (.d d) st
      | none => .no
    else .no
  | _ => .no
theorem pe_setdN {td : TE} {ty tx : TE} (hu : X.A.units + 65 < cLine) (ho : PE X o td) (he : PE X e ty) (hf : PE X b tx) (m : M2 X o "setdefault" apos e b cpos) : PE X (.Call (.Attribute o "setdefault" apos) [e, b] [] cpos) (fun σ H Q => td σ H fun x H1 => ∃ a es, x = .ref a ∧ DR X.K H1 a es ∧ ((es.all fun e => keyK e.1) = true ∨ (es.all fun e => keyT e.1) = true) ∧
    ty σ H1 fun y H2 => tx σ H2 fun z H3 => ∃ es kd xd, DRo X.K H3 a es ∧ es.length < sizeLine ∧ Rp X.K H3 y kd ∧ kOk es kd = true ∧ Rp X.K H3 z xd ∧ (∀ d v, dGet es kd = some d → Rp X.K H3 v d → Q v H3) ∧
      (dGet es kd = none → ∀ u' xs', Mut (some u') → DOf a u' xs' → RpD X.K (upd H3 a u') xs' (dPut es kd xd) → Kp H3 (upd H3 a u') → Q z (upd H3 a u'))) := by
  refine ⟨fun pins s σ H Q I h => ?_⟩
  refine wpAny_Call_method m.base m.few m.line PySem.F.plainAttrs_dict PySem.F.slot_dict_setdefault PySem.F.type_dict_setdefault (thn (ho.run pins s σ H _ I h) fun u s1 ⟨x, H1, I1, rx, a, es, ex, d, ok, q1⟩ => ?_)
  subst ex
  obtain rfl : u = Value.ref a := rx
  obtain ⟨t1, t2⟩ := d.ty I1 ok
  refine ⟨t1, t2, ?_⟩
  rw [m.trees]
  refine Calls.callWith_builtin rfl (Calls.evalArgs_plain (Calls.spliced_cons (thn (he.run pins s1 σ H1 _ I1 q1) fun iv s2 ⟨y, H2, I2, ry, q2⟩ =>
    Calls.spliced_cons (thn (hf.run pins s2 σ H2 _ I2 q2) fun fv s3 ⟨z, H3, I3, rz, es, kd, xd, D, hz, rk, ok, rd, q3, q4⟩ => Calls.spliced_nil ?_))))
  exact dro_setd (hu10 hu) I3 D hz rk ok ry rd rz (fun d v w' s' g r I' rw' => ⟨v, H3, I', rw', q3 d v g r⟩) fun g u' xs' s' I' mu dd r k => ⟨z, _, I', rz, q4 g u' xs' mu dd r k⟩
theorem se_setd (hu : X.A.units + 65 < cLine) (i : Nat) (ho : PE X o (tVar i)) (hk : SE X W e fa) (hx : SE X W b fb) (m : M2 X o "setdefault" apos e b cpos) : SE X W (.Call (.Attribute o "setdefault" apos) [e, b] [] cpos) (xSetd i fa fb) := by
  refine ⟨PE.imp (pe_setdN hu ho hk.pe (se_fz hx).pe m) fun σ H Q ⟨st, F, μ, rep, q⟩ => ?_⟩
  unfold xSetd at q
  split at q
  · rename_i o0 e0
    split at q
    · rename_i ok0
      obtain ⟨v, h1, w0⟩ := rep.slot e0
      obtain ⟨a, es0, rfl, D0, oo⟩ := dcOk_dr w0 ok0
      refine ⟨_, h1, a, es0, rfl, D0, oo, st, F, μ, rep, Aft.bind (Fv := fun _ => False) q (List.prefix_refl _) (Ext.refl fun a z => z.elim False.elim id) fun k st1 v1 H1 μ1 Fv1 F1 e1 m1 r1 rep1 d1 l1 x1 q1 => ?_⟩
      refine ⟨st1, F1, μ1, rep1, Aft.bind (Fv := Fv1) q1 m1 x1 fun x st2 v2 H2 μ2 Fv2 F2 e2 m2 r2 rep2 d2 l2 x2 q2 => ?_⟩
      have X2 : Ext H F H2 (fun a => (Fv1 a ∨ Fv2 a) ∨ F2 a) := x1.trans ((x2.frame (G := Fv1)).imp fun a z => by rcases z with (z | z) | z; exact .inl z; exact .inr (.inl z); exact .inr (.inr z))
      cases es : setdAt i k x st2 with
      | none => rw [es] at q2; exact q2.elim
      | some pr =>
        obtain ⟨d, st3⟩ := pr
        rw [es] at q2
        dsimp only at q2
        unfold setdAt at es
        split at es
        · rename_i ds kd xd el
          split at es
          · rename_i ok
            obtain ⟨ok1, ok2⟩ := Bool.and_eq_true_iff.mp ok
            obtain ⟨a', c1, c2, c3, c4⟩ := rep2.chgD el
            rw [h1] at c1; cases c1
            refine ⟨ds, kd, xd, c2, small_lt ok2, r1.rp.kp x2.kp, ok1, r2.rp, fun d' v g r => ?_, fun g u' xs' mu dd r kp => ?_⟩
            · rw [g] at es
              cases es
              exact (Aft.fin (G := fun a => Fv1 a ∨ Fv2 a) q2 (m1.trans m2) rep2 X2).datum r
            · rw [g] at es
              cases es
              obtain ⟨c5, c6⟩ := c4 u' xs' _ mu dd r kp
              have fin := Aft.fin (G := fun _ => False) q2 (m1.trans m2) c5 (((X2.imp fun a z => .inr z : Ext H F H2 F2).trans c6).imp fun a z => z.elim False.elim id)
              exact fin.datum (r2.rp.kp kp)
          · cases es
        · cases es
    · exact q.elim
  · exact q.elim
end
end Tr
namespace Tr
open PySem PySem.Spec PyProof.Rows L2
/-! ### {k: v}, k a tuple -/
def tDisp1 (K : PySem.W.Frag) (trs : List (TE × TE)) : TE := fun σ H Q => ∀ p, H p = none → tPairs trs σ (upd H p (.dK [])) fun ps H2 => H2 p = some (.dK []) ∧ ∃ kv v kd d, ps = [(kv, v)] ∧ Rp K H2 kv kd ∧ keyT kd = true ∧ Rp K H2 v d ∧
  ∀ u' xs', Mut (some u') → DOf p u' xs' → RpD K (upd H2 p u') xs' [(kd, d)] → Kp H2 (upd H2 p u') → Q (.ref p) (upd H2 p u')
section
variable {X : Cx} {W : WX} {a b c e ie o k v : Expr} {es : List Expr} {fa fb fc f fi fk fv : XE} {pos p apos cpos p2 : Pos} {σ : L2.St} {H : Hp} {st : St} {F : FP} {μ : Mu}
theorem pe_disp1 {trs : List (TE × TE)} (hu : X.A.units + 65 < cLine) (h : PPs X pos [some k] [v] trs) : PE X (.Dict [some k] [v] pos) (tDisp1 X.K trs) := by
  refine ⟨fun pins s σ H Q I q => ?_⟩
  have hn := I.hok.fresh (Nat.le_refl s.heap.objs.size)
  have I1 := I.laid (a := s.heap.objs.size) (o := .dK []) (h' := s.heap.push { cls := .type "dict", data := .dict #[] }) (t' := s.toks) (fun _ _ q => Heap.get?_push_of_some _ q) (Nat.le_refl _) (dk_empty s.heap I.big)
  have hp : pairTrees [some k] [v] X.env pos ≠ [] := fun z => by
    have := PySem.pairTrees_length [some k] [v] X.env pos rfl rfl
    rw [z] at this; cases this
  have hl : (pairTrees [some k] [v] X.env pos).length = 1 := PySem.pairTrees_length [some k] [v] X.env pos rfl rfl
  rw [PySem.arm_eval_Dict, PySem.zip_pairTrees [some k] [v] X.env pos rfl rfl, PySem.dictDisplay_pairs _ hp (by rw [hl]; decide)]
  refine wpAny_bind (wpAny_standAt (wpAny_bind (wpAny_subDictH (knd := nestedKind X.prog X.w) (by show X.A.units + 8 < cLine; omega) (by rw [hl]; decide) (thn (h.run pins _ σ _ _ I1 (q _ hn)) fun ws s2 ⟨ps, H2, I2, rel, e, kv, v, kd, d, ep, rk, kt, rv, q2⟩ => ?_))))
  subst ep
  cases rel with
  | @cons _ w _ _ r1 r2 =>
    cases r2
    obtain ⟨w1, w2⟩ := w
    obtain ⟨r1, r2⟩ := r1
    dsimp only at r1 r2
    obtain ⟨b, rfl⟩ := keyT_ref kt rk
    obtain ⟨nk, ek, dp⟩ := keyT_ok kt
    cases r1
    have D : DRo X.K H2 s.heap.objs.size [] := ⟨_, _, e, .k [], .nil⟩
    obtain ⟨ys, dd0, hd, _, en⟩ := D.r.asT I2 rfl
    cases en
    refine ⟨[(nk, b, w2)], ⟨rfl, rfl, ⟨nested_of I2 _ rk ek rfl, dp⟩, trivial⟩, dd0, fun h' tk dd' hs => wpAny_pure ?_⟩
    obtain ⟨u', xs', g1, g2, g3, g4, g5⟩ := dro_putT (t' := tk) I2 D (by rw [sizeLine_eq]; decide) rv rk ek dp hd .nil dd' hs r2
    exact ⟨.ref s.heap.objs.size, _, g1, rfl, q2 u' xs' g2 g3 g4 g5⟩
def xD1 (fk fv : XE) : XE := fun st => bindO (fk st) fun k st => bindO (xFz fv st) fun v st => match k, v with
  | .d kd, .d d => if keyT kd then .ok (.dct [(kd, d)]) st else .no
  | _, _ => .no
theorem se_d1 (hu : X.A.units + 65 < cLine) (hk : SE X W k fk) (hv : SE X W v fv) : SE X W (.Dict [some k] [v] pos) (xD1 fk fv) := by
  refine ⟨PE.imp (pe_disp1 hu (pps_cons hk.pe (se_fz hv).pe pps_nil)) fun σ H Q ⟨st, F, μ, rep, q⟩ => ?_⟩
  intro p np
  have g0 : ∀ b u, H b = some u → (upd H p (.dK [])) b = some u := fun b u q => by rw [upd_ne (ne_of_none q np)]; exact q
  have rep0 := rep.grow g0
  have nF : ¬ F p := fun z => rep.live p z np
  have X0 : Ext H F (upd H p (.dK [])) (fun a => a = p ∨ F a) := (Ext.refl (F' := F) fun _ z => z).grow g0 fun a z => z.elim (fun z => .inr (z ▸ np)) .inl
  unfold xD1 at q
  refine ⟨st, F, μ, rep0, Aft.bind (Fv := fun a => a = p) q (List.prefix_refl _) X0 fun k1 st1 v1 H1 μ1 Fv1 F1 e1 m1 r1 rep1 d1 l1 x1 q1 => ?_⟩
  have hp1 : H1 p = some (.dK []) := x1.out p _ upd_same nF
  have nn1 : ∀ a, (Fv1 a ∨ F1 a) → a ≠ p := fun a z w => by
    subst w
    rcases x1.new a z with q | q
    · rw [upd_same] at q; cases q
    · exact nF q
  have X1 : Ext H F H1 (fun a => (a = p ∨ Fv1 a) ∨ F1 a) := X0.trans ((x1.frame (G := fun a => a = p)).imp fun a z => by
    rcases z with (z | z) | z
    · exact .inl z
    · exact .inr (.inl z)
    · exact .inr (.inr z))
  refine ⟨st1, F1, μ1, rep1, Aft.bind (Fv := fun a => a = p ∨ Fv1 a) q1 m1 X1 fun v2 st2 w2 H2 μ2 Fv2 F2 e2 m2 r2 rep2 d2 l2 x2 q2 => ?_⟩
  have hp2 : H2 p = some (.dK []) := x2.out p _ hp1 fun z => nn1 p (.inr z) rfl
  have nF2 : ¬ F2 p := fun z => by
    rcases x2.new p (.inr z) with q | q
    · rw [hp1] at q; cases q
    · exact nn1 p (.inr q) rfl
  split at q2
  · rename_i kd d
    split at q2
    · rename_i kt
      refine ⟨hp2, v1, w2, kd, d, rfl, r1.rp.kp x2.kp, kt, r2.rp, fun u' xs' mu dd r kp => ?_⟩
      have ou : ∀ b, b ≠ p → (upd H2 p u') b = H2 b := fun b nb => upd_ne nb
      have rep3 := rep2.step (fun a z => ou a fun w => nF2 (w ▸ z)) kp
      refine q2 (.ref p) _ μ2 (fun a => a = p) F2 (m1.trans m2) (.dct upd_same dd r rfl) rep3 (fun x z w => nF2 (z ▸ w)) (fun x z => by rw [z, upd_same]; simp) ?_
      have X2 : Ext H F H2 (fun a => a = p ∨ F2 a) := X1.trans ((x2.frame (G := fun a => a = p ∨ Fv1 a)).imp fun a z => by
        rcases z with z | z
        · exact .inl (.inl z)
        · exact .inr (.inr z))
      refine X2.trans ⟨fun b u q n => ?_, kp, fun a z => .inr z⟩
      rw [ou b fun w => n (.inl w)]; exact q
    · exact q2.elim
  · exact q2.elim
/-! ### {k: v, ..}, the keys texts -/
def xDK (ps : List (Str × XE)) : XE := fun st => bindO (xPs ps st) fun kvs st => .ok (.dct (kvs.map fun p => (.str p.1, p.2))) st
theorem pr_rpd {K : PySem.W.Frag} {H : Hp} {vs : List (V × V)} {ks : List (Str × PyData)} (h : PR K H vs ks) : ∃ kvs : List (Key × V), vs = kvs.map (fun kv => (kV kv.1, kv.2)) ∧ kvs.map (·.1) = ks.map (fun k => .inr k.1) ∧ RpD K H (kvs.map fun p => (kV p.1, kD p.1, p.2)) (ks.map fun p => (.str p.1, p.2)) := by
  induction h with
  | nil => exact ⟨[], rfl, rfl, .nil⟩
  | @cons v k _ _ a b ih =>
    obtain ⟨kvs, e1, e2, e3⟩ := ih
    obtain ⟨v1, v2⟩ := v
    obtain ⟨k1, k2⟩ := k
    obtain ⟨a1, a2⟩ := a
    have a1 : v1 = .str k1 := a1
    exact ⟨(.inr k1, v2) :: kvs, by rw [e1, a1]; rfl, by rw [List.map_cons, e2]; rfl, .cons (.str k1) a2 e3⟩
theorem se_dK {keys : List (Option Expr)} {vals : List Expr} {ps : List (Str × XE)} (h : SDs X W keys vals ps) (hnd : (ps.map (·.1)).Nodup) (hall : keys.all (·.isSome) = true := by rfl) (hl : keys.length = vals.length := by rfl) (h0 : keys ≠ [] := by simp)
    (h15 : keys.length ≤ 15 := by decide) (hp : ps.length ≤ 15 := by decide) : SE X W (.Dict keys vals p) (xDK ps) := by
  refine ⟨PE.imp (pe_disp (h.pps _) hall hl h0 h15) fun σ H Q ⟨st, F, μ, rep, q⟩ => ?_⟩
  intro p np
  have g0 : ∀ b u, H b = some u → (upd H p (.dK [])) b = some u := fun b u q => by rw [upd_ne (ne_of_none q np)]; exact q
  have rep0 := rep.grow g0
  have nF : ¬ F p := fun z => rep.live p z np
  have X0 : Ext H F (upd H p (.dK [])) (fun a => a = p ∨ F a) := (Ext.refl (F' := F) fun _ z => z).grow g0 fun a z => z.elim (fun z => .inr (z ▸ np)) .inl
  unfold xDK at q
  refine pairs_core ps rep0 (Aft.bind (Fv := fun a => a = p) q (List.prefix_refl _) X0 fun kvs st1 vs H1 μ1 Fv1 F1 e1 m1 r1 rep1 d1 l1 x1 q1 => ?_)
  have hp1 : H1 p = some (.dK []) := x1.out p _ upd_same nF
  have nF1 : ¬ F1 p := fun z => by
    rcases x1.new p (.inr z) with w | w
    · rw [upd_same] at w; cases w
    · exact nF w
  obtain ⟨kv, k1, k2, k3⟩ := pr_rpd r1
  have hks := xPs_keys e1
  have nd : (kv.map (·.1)).Nodup := by
    rw [k2]
    have : kvs.map (fun k => (Sum.inr k.1 : Key)) = (ps.map (·.1)).map Sum.inr := by rw [← hks, List.map_map]; rfl
    rw [this]
    exact hnd.map (f := Sum.inr) fun a b n e => n (Sum.inr.inj e)
  have mk : mergeK [] kv = kv := by rw [merge_new kv [] nd fun _ _ => rfl]; rfl
  have lk : kv.length ≤ 15 := by
    have a1 := congrArg List.length k2
    have a2 := congrArg List.length hks
    simp at a1 a2
    omega
  refine ⟨hp1, kv, k1, lk, ?_⟩
  rw [mk]
  have ou : ∀ b, b ≠ p → (upd H1 p (.dK kv)) b = H1 b := fun b nb => upd_ne nb
  have kp : Kp H1 (upd H1 p (.dK kv)) := Kp.putU hp1 trivial
  have rep1' := rep1.step (fun a z => ou a fun w => nF1 (w ▸ z)) kp
  have X1 : Ext H F (upd H1 p (.dK kv)) (fun a => a = p ∨ F1 a) := by
    have X1 := X0.trans (x1.frame (G := fun a => a = p))
    refine X1.trans ⟨fun b u q n => ?_, kp, fun a z => ?_⟩
    · rw [ou b fun w => n (.inl w)]; exact q
    · rcases z with z | z
      · exact .inr (.inl z)
      · exact .inr (.inr (.inr z))
  exact q1 (.ref p) _ μ1 (fun a => a = p) F1 m1 (.dct upd_same (.k kv) (k3.kpP kp) rfl) rep1' (fun x z w => nF1 (z ▸ w)) (fun x z => by rw [z, upd_same]; simp) X1
end
end Tr
namespace Tr
open PySem PySem.Spec PyProof.Rows L2
/-! ### four names at once -/
section
variable {X : Cx} {W : WX} {a b c d : Expr} {fa fb fc fd : XE} {pos : Pos} {σ : L2.St} {H : Hp} {st : St} {F : FP} {μ : Mu}
@[simp] def sPar4 (i j l m : Nat) (fa fb fc fd : XE) : XS := fun st => bindO (fa st) fun a st => bindO (fb st) fun b st => bindO (fc st) fun c st => bindO (fd st) fun d st => endO ((((putAt i a st).bind (putAt j b)).bind (putAt l c)).bind (putAt m d))
theorem ss_par4 (i j l m : Nat) {x y z t : Str} {px py pz pw pt : Pos} {kt k2 pt2} (hc : X.calm = true) (hN : X.N.Nodup) (hi : X.N[i]? = some x) (hj : X.N[j]? = some y) (hl : X.N[l]? = some z) (hm : X.N[m]? = some t)
    (hx : X.env.scope.names.lookup x = some .local) (hy : X.env.scope.names.lookup y = some .local) (hz : X.env.scope.names.lookup z = some .local) (ht : X.env.scope.names.lookup t = some .local) (ha : SE X W a fa) (hb : SE X W b fb) (hcc : SE X W c fc) (hd : SE X W d fd)
    (hw : swappedStores [.Tuple [.Name x px, .Name y py, .Name z pz, .Name t pw] kt pt] (.Tuple [a, b, c, d] k2 pt2) X.env = pure none := by rfl)
    (hs : swapsWithSole [.Tuple [.Name x px, .Name y py, .Name z pz, .Name t pw] kt pt] (.Tuple [a, b, c, d] k2 pt2) pos.line X.env = pure false := by rfl)
    (s1 : starEach [a, b, c, d] X.env = (false, eval a X.env) :: starEach [b, c, d] X.env := by rfl) (s2 : starEach [b, c, d] X.env = (false, eval b X.env) :: starEach [c, d] X.env := by rfl) (s3 : starEach [c, d] X.env = (false, eval c X.env) :: starEach [d] X.env := by rfl) (s4 : starEach [d] X.env = (false, eval d X.env) :: starEach [] X.env := by rfl) :
    SS X W (.Assign [.Tuple [.Name x px, .Name y py, .Name z pz, .Name t pw] kt pt] (.Tuple [a, b, c, d] k2 pt2) pos) (sPar4 i j l m fa fb fc fd) := by
  have p1 : PG X (.Name x px) (gName i) := pg_name hN hi (.inl hx) (.inr hx)
  have p2 : PG X (.Name y py) (gName j) := pg_name hN hj (.inl hy) (.inr hy)
  have p3 : PG X (.Name z pz) (gName l) := pg_name hN hl (.inl hz) (.inr hz)
  have p4 : PG X (.Name t pw) (gName m) := pg_name hN hm (.inl ht) (.inr ht)
  refine ⟨PS.imp (ps_asg (pe_tup (pa_cons ha.pe (pa_cons hb.pe (pa_cons hcc.pe (pa_cons hd.pe pa_nil s4) s3) s2) s1)) (pg_tup hc (pgs_cons p1 (pgs_cons p2 (pgs_cons p3 (pgs_cons p4 pgs_nil)))) (n := 4)) hs hw) fun D σ H ⟨st, F, μ, rep, q⟩ => ?_⟩
  refine ⟨st, F, μ, rep, AftS.bind q fun o1 st1 v1 H1 μ1 Fv1 F1 e1 m1 r1 rep1 d1 l1 x1 q1 => ?_⟩
  refine ⟨st1, F1, μ1, rep1, AftS.bind2 (Fv := Fv1) q1 m1 x1 fun o2 st2 v2 H2 μ2 Fv2 F2 e2 m2 r2 rep2 d2 l2 x2 q2 => ?_⟩
  have k1 := keepF x2 d1 l1
  have r1' := r1.step m2 k1 x2.kp
  have X2 : Ext H F H2 (fun a => (Fv1 a ∨ Fv2 a) ∨ F2 a) := x1.trans ((x2.frame (G := Fv1)).imp fun a z => by
    rcases z with (z | z) | z
    · exact .inl z
    · exact .inr (.inl z)
    · exact .inr (.inr z))
  have dj1 : ∀ a, Fv1 a → (Fv2 a ∨ F2 a) → False := fun a z w => by
    rcases x2.new a w with q | q
    · exact l1 a z q
    · exact d1 a z q
  have l1' : ∀ a, Fv1 a → H2 a ≠ none := fun a z => by rw [k1 a z]; exact l1 a z
  refine ⟨st2, F2, μ2, rep2, AftS.bind2 (Fv := fun a => Fv1 a ∨ Fv2 a) q2 (m1.trans m2) X2 fun o3 st3 v3 H3 μ3 Fv3 F3 e3 m3 r3 rep3 d3 l3 x3 q3 => ?_⟩
  have dA : ∀ a, (Fv1 a ∨ Fv2 a) → F2 a → False := fun a z w => z.elim (fun q => dj1 a q (.inr w)) fun q => d2 a q w
  have lA : ∀ a, (Fv1 a ∨ Fv2 a) → H2 a ≠ none := fun a z => z.elim (l1' a) (l2 a)
  have kA := keepF x3 dA lA
  have r1'' := r1'.step m3 (fun a z => kA a (.inl z)) x3.kp
  have r2'' := r2.step m3 (fun a z => kA a (.inr z)) x3.kp
  have X3 : Ext H F H3 (fun a => ((Fv1 a ∨ Fv2 a) ∨ Fv3 a) ∨ F3 a) := X2.trans ((x3.frame (G := fun a => Fv1 a ∨ Fv2 a)).imp fun a z => by
    rcases z with (z | z) | z
    · exact .inl z
    · exact .inr (.inl z)
    · exact .inr (.inr z))
  have djA : ∀ a, (Fv1 a ∨ Fv2 a) → (Fv3 a ∨ F3 a) → False := fun a z w => by
    rcases x3.new a w with q | q
    · exact lA a z q
    · exact dA a z q
  have lA' : ∀ a, (Fv1 a ∨ Fv2 a) → H3 a ≠ none := fun a z => by rw [kA a z]; exact lA a z
  refine ⟨st3, F3, μ3, rep3, AftS.bind2 (Fv := fun a => (Fv1 a ∨ Fv2 a) ∨ Fv3 a) q3 ((m1.trans m2).trans m3) X3 fun o4 st4 v4 H4 μ4 Fv4 F4 e4 m4 r4 rep4 d4 l4 x4 q4 => ?_⟩
  refine ⟨by show 4 ≤ sizeLine; rw [sizeLine_eq]; decide, fun p np => ?_⟩
  have dB : ∀ a, ((Fv1 a ∨ Fv2 a) ∨ Fv3 a) → F3 a → False := fun a z w => z.elim (fun q => djA a q (.inr w)) fun q => d3 a q w
  have lB : ∀ a, ((Fv1 a ∨ Fv2 a) ∨ Fv3 a) → H3 a ≠ none := fun a z => z.elim (lA' a) (l3 a)
  have kB := keepF x4 dB lB
  have t1 := r1''.step m4 (fun a z => kB a (.inl (.inl z))) x4.kp
  have t2 := r2''.step m4 (fun a z => kB a (.inl (.inr z))) x4.kp
  have t3 := r3.step m4 (fun a z => kB a (.inr z)) x4.kp
  have X4 : Ext H F H4 (fun a => ((Fv1 a ∨ Fv2 a) ∨ Fv3 a) ∨ (Fv4 a ∨ F4 a)) := X3.trans (x4.frame (G := fun a => (Fv1 a ∨ Fv2 a) ∨ Fv3 a))
  have djB : ∀ a, ((Fv1 a ∨ Fv2 a) ∨ Fv3 a) → (Fv4 a ∨ F4 a) → False := fun a z w => by
    rcases x4.new a w with q | q
    · exact lB a z q
    · exact dB a z q
  have lB' : ∀ a, ((Fv1 a ∨ Fv2 a) ∨ Fv3 a) → H4 a ≠ none := fun a z => by rw [kB a z]; exact lB a z
  have g0 : ∀ b u, H4 b = some u → (upd H4 p (.tup [v1, v2, v3, v4])) b = some u := fun b u q => by rw [upd_ne (ne_of_none q np)]; exact q
  have live : ∀ b, H4 b ≠ none → (upd H4 p (.tup [v1, v2, v3, v4])) b = H4 b := fun b q => upd_ne fun w => q (w ▸ np)
  have kp : Kp H4 (upd H4 p (.tup [v1, v2, v3, v4])) := ⟨fun x xs q => g0 x _ q, fun x o u q => g0 x _ q⟩
  refine ⟨p, [v1, v2, v3, v4], rfl, .inl (Rd.of upd_same), rfl, v1, _, rfl, v2, _, rfl, v3, _, rfl, v4, _, rfl, rfl, ?_⟩
  have rp := rep4.grow g0
  have u1 := t1.step (List.prefix_refl _) (fun a z => live a (lB' a (.inl (.inl z)))) kp
  have u2 := t2.step (List.prefix_refl _) (fun a z => live a (lB' a (.inl (.inr z)))) kp
  have u3 := t3.step (List.prefix_refl _) (fun a z => live a (lB' a (.inr z))) kp
  have u4 := r4.step (List.prefix_refl _) (fun a z => live a (l4 a z)) kp
  have lv : ∀ b, H4 b ≠ none → (upd H4 p (.tup [v1, v2, v3, v4])) b ≠ none := fun b q => by rw [live b q]; exact q
  cases ep : (((putAt i o1 st4).bind (putAt j o2)).bind (putAt l o3)).bind (putAt m o4) with
  | none => rw [ep] at q4; exact q4.elim
  | some st8 =>
    rw [ep] at q4
    obtain ⟨st7, p0, w4⟩ := Option.bind_eq_some_iff.mp ep
    obtain ⟨st6, p0, w3⟩ := Option.bind_eq_some_iff.mp p0
    obtain ⟨st5, w1, w2⟩ := Option.bind_eq_some_iff.mp p0
    obtain ⟨b1, rfl⟩ := putAt_some w1
    obtain ⟨b2, rfl⟩ := putAt_some w2
    obtain ⟨b3, rfl⟩ := putAt_some w3
    obtain ⟨b4, rfl⟩ := putAt_some w4
    have ra := rp.put b1 u1 (fun a z w => djB a (.inl (.inl z)) (.inr w)) (fun a z => lv a (lB' a (.inl (.inl z)))) (fun _ _ => rfl) (Kp.refl _)
    have rb := ra.put b2 u2 (fun a z w => w.elim (fun q => dj1 a q (.inl z)) fun q => djB a (.inl (.inr z)) (.inr q)) (fun a z => lv a (lB' a (.inl (.inr z)))) (fun _ _ => rfl) (Kp.refl _)
    have rc := rb.put b3 u3 (fun a z w => by
      rcases w with w | w | w
      · exact djA a (.inr w) (.inl z)
      · exact djA a (.inl w) (.inl z)
      · exact djB a (.inr z) (.inr w)) (fun a z => lv a (lB' a (.inr z))) (fun _ _ => rfl) (Kp.refl _)
    have rd := rc.put b4 u4 (fun a z w => by
      rcases w with w | w | w | w
      · exact djB a (.inr w) (.inl z)
      · exact djB a (.inl (.inr w)) (.inl z)
      · exact djB a (.inl (.inl w)) (.inl z)
      · exact d4 a z w) (fun a z => lv a (l4 a z)) (fun _ _ => rfl) (Kp.refl _)
    refine q4 _ _ μ4 _ (((m1.trans m2).trans m3).trans m4) rd (X4.grow g0 fun a z => .inl ?_)
    rcases z with z | z | z | z | z
    · exact .inr (.inl z)
    · exact .inl (.inr z)
    · exact .inl (.inl (.inr z))
    · exact .inl (.inl (.inl z))
    · exact .inr (.inr z)
end
end Tr
namespace L2
open PySem PySem.Spec PyProof.Rows PySem.W
/-! ### zip within enumerate: its tuples are let go by none -/
abbrev IsZipS (h : Heap) (z TI TO : Addr) (f0 : Value) (f : Bool) : Prop :=
  h.get? z = some { cls := .type "zip", dict := none, data := .fields #[f0, .bool f, .bool false, .ref TI, .ref TO], slots := #[] }
section
variable {prog : Program} {w : World} {A : Around} {E : Value → Shared → Prop} {s : Shared}
theorem alive_any {a : Addr} {Q : Option Obj → Shared → Prop} (h : Q (s.heap.get? a) s) : wpAny (model prog w) A (loadIfAlive a) Q E s := fun _ _ _ => h
/-- the zip's own tuple is free: it hands out a new one and keeps a copy -/
theorem zip_next_free {z TI TO i1 i2 l1 l2 : Addr} {k1 k2 : Nat} {xs ys : Array Value} {x y a b f0 : Value} {f : Bool} {Q : Value → Shared → Prop} (D : ZipApart z TI TO i1 i2 l1 l2)
    (hz : IsZipS s.heap z TI TO f0 f) (hfree : ∀ (Q : Bool → Shared → Prop), Q true s → wpAny (model prog w) A (Builtin.SmallTypes.ownedTupleIsFree (.ref z)) Q E s) (hTI : IsPair s.heap TI (.ref i1) (.ref i2)) (hTO : IsPair s.heap TO a b)
    (h1 : s.heap.IsListIter i1 l1 k1) (h2 : s.heap.IsListIter i2 l2 k2) (hl1 : s.heap.IsList l1 xs) (hl2 : s.heap.IsList l2 ys) (hx : xs[k1]? = some x) (hy : ys[k2]? = some y)
    (hQ : ∀ h', IsZipS h' z TI TO (rawInt s.heap.objs.size) false → IsPair h' TO x y → h'.IsListIter i1 l1 (k1 + 1) → h'.IsListIter i2 l2 (k2 + 1) → IsPair h' s.heap.objs.size x y → h'.objs.size = s.heap.objs.size + 1 →
      (∀ c o, c ≠ z → c ≠ TO → c ≠ i1 → c ≠ i2 → s.heap.get? c = some o → h'.get? c = some o) → Q (.ref s.heap.objs.size) { s with heap := h' }) :
    wpAny (model prog w) A (Builtin.«zip.__next__» ⟨[.ref z], []⟩) (fun fin s' => ∃ v, fin = .done (.ret v) ∧ Q v s') E s := by
  show wpAny _ _ (field (.ref z) 2 >>= _) _ _ _
  refine wpAny_bind (wpAny_field hz rfl (x := .bool false) rfl ?_)
  show wpAny _ _ (field (.ref z) 3 >>= _) _ _ _
  refine wpAny_bind (wpAny_field hz rfl (x := .ref TI) rfl ?_)
  refine wpAny_bind (wpAny_seqItems hTI rfl ?_)
  show wpAny _ _ (Builtin.SmallTypes.ownedTupleIsFree (.ref z) >>= _) _ _ _
  refine wpAny_bind (hfree _ ?_)
  simp only [if_true]
  refine wpAny_bind (wpAny_rule ?_)
  refine wpAny_bind (wpAny_field hz rfl (x := .ref TO) rfl ?_)
  refine wpAny_bind (wpAny_setField_rec hz (by simp) fun h₁ hz₁ hs₁ => ?_)
  replace hz₁ : IsZipS h₁ z TI TO .ellipsis f := hz₁
  refine wpAny_bind ?_
  simp only [List.zipIdx_cons, List.zipIdx_nil, List.forIn_cons, List.forIn_nil]
  refine wpAny_bind (wpAny_bind (wpAny_onRaise ?_))
  show wpAny _ _ (Builtin.SmallTypes.nextOf (.ref i1) >>= _) _ _ _
  refine wpAny_bind (wpAny_nextOf_list_item (h1.extBut hs₁.extBut D.i1z) (hl1.extBut hs₁.extBut D.l1z) hx fun h₂ h1₂ hs₂ => wpAny_pure ?_)
  have hTO₂ : IsPair h₂ TO a b := hs₂.extBut _ _ D.TOi1 (hs₁.extBut _ _ D.TOz hTO)
  refine wpAny_bind (wpAny_seqItems hTO₂ rfl ?_)
  refine wpAny_bind (wpAny_updateSeq_pair hTO₂ fun h₃ hTO₃ hs₃ => ?_)
  replace hTO₃ : IsPair h₃ TO x b := hTO₃
  refine wpAny_bind (wpAny_letGo (wpAny_pure ?_))
  refine wpAny_bind (wpAny_bind (wpAny_onRaise ?_))
  show wpAny _ _ (Builtin.SmallTypes.nextOf (.ref i2) >>= _) _ _ _
  refine wpAny_bind (wpAny_nextOf_list_item (((h2.extBut hs₁.extBut D.i2z).extBut hs₂.extBut D.i12.symm).extBut hs₃.extBut D.TOi2.symm)
    (((hl2.extBut hs₁.extBut D.l2z).extBut hs₂.extBut D.l2i1).extBut hs₃.extBut D.l2TO) hy fun h₄ h2₄ hs₄ => wpAny_pure ?_)
  have hTO₄ : IsPair h₄ TO x b := hs₄.extBut _ _ D.TOi2 hTO₃
  refine wpAny_bind (wpAny_seqItems hTO₄ rfl ?_)
  refine wpAny_bind (wpAny_updateSeq_pair hTO₄ fun h₅ hTO₅ hs₅ => ?_)
  replace hTO₅ : IsPair h₅ TO x y := hTO₅
  refine wpAny_bind (wpAny_letGo (wpAny_pure (wpAny_pure ?_)))
  refine wpAny_bind (wpAny_seqItems hTO₅ rfl ?_)
  refine wpAny_bind (wpAny_newTuple ?_)
  have hsz : h₅.objs.size = s.heap.objs.size := by rw [hs₅.1, hs₄.1, hs₃.1, hs₂.1, hs₁.1]
  have hz₅ : IsZipS h₅ z TI TO .ellipsis f := hs₅.extBut _ _ D.TOz.symm (hs₄.extBut _ _ D.i2z.symm (hs₃.extBut _ _ D.TOz.symm (hs₂.extBut _ _ D.i1z.symm hz₁)))
  have hk₅ : ∀ c o, c ≠ z → c ≠ TO → c ≠ i1 → c ≠ i2 → s.heap.get? c = some o → h₅.get? c = some o := fun c o c1 c2 c3 c4 e =>
    hs₅.extBut _ _ c2 (hs₄.extBut _ _ c4 (hs₃.extBut _ _ c2 (hs₂.extBut _ _ c3 (hs₁.extBut _ _ c1 e))))
  have h1₅ : h₅.IsListIter i1 l1 (k1 + 1) := ((h1₂.extBut hs₃.extBut D.TOi1.symm).extBut hs₄.extBut D.i12).extBut hs₅.extBut D.TOi1.symm
  have h2₅ : h₅.IsListIter i2 l2 (k2 + 1) := h2₄.extBut hs₅.extBut D.TOi2.symm
  have hzlt : z < h₅.objs.size := Heap.lt_size hz₅
  show wpAny _ _ (Builtin.SmallTypes.ownedTupleHandOut (.ref z) (.ref h₅.objs.size) >>= _) _ _ _
  refine wpAny_bind ?_
  unfold Builtin.SmallTypes.ownedTupleHandOut
  have hz₆ : IsZipS (h₅.push { cls := .type "tuple", data := .seq #[x, y] }) z TI TO .ellipsis f := Heap.get?_push_of_some _ hz₅
  refine wpAny_bind (wpAny_setField_rec hz₆ (by simp) fun h₇ hz₇ hs₇ => ?_)
  replace hz₇ : IsZipS h₇ z TI TO (rawInt h₅.objs.size) f := hz₇
  refine wpAny_setField_rec hz₇ (by simp) fun h₈ hz₈ hs₈ => ?_
  replace hz₈ : IsZipS h₈ z TI TO (rawInt h₅.objs.size) false := hz₈
  have up : ∀ c o, c ≠ z → h₅.get? c = some o → h₈.get? c = some o := fun c o c1 e => hs₈.extBut _ _ c1 (hs₇.extBut _ _ c1 (Heap.get?_push_of_some _ e))
  have hT₈ : IsPair h₈ h₅.objs.size x y := hs₈.extBut _ _ (Nat.ne_of_gt hzlt) (hs₇.extBut _ _ (Nat.ne_of_gt hzlt) (Heap.get?_push_size _ rfl))
  have hz8 : h₈.objs.size = h₅.objs.size + 1 := by rw [hs₈.1, hs₇.1, Heap.size_push]
  rw [hsz] at hz₈ hT₈ hz8
  refine wpAny_pure ⟨_, rfl, ?_⟩
  show Q (.ref h₅.objs.size) _
  rw [hsz]
  exact hQ h₈ hz₈ (up _ _ D.TOz hTO₅) (h1₅.at fun o e => up _ o D.i1z e) (h2₅.at fun o e => up _ o D.i2z e) hT₈ hz8 fun c o c1 c2 c3 c4 e => up c o c1 (hk₅ c o c1 c2 c3 c4 e)
/-- how a zip stands between two turns, whoever holds its tuple -/
def ZSt (h : Heap) (z TI TO i1 i2 l1 l2 : Addr) (k : Nat) : Prop := (∃ f0 f, IsZipS h z TI TO f0 f ∧ ((f0 = .none ∧ f = false) ∨ ∃ T : Nat, f0 = rawInt T)) ∧ IsPair h TI (.ref i1) (.ref i2) ∧ (∃ a b, IsPair h TO a b) ∧ h.IsListIter i1 l1 k ∧ h.IsListIter i2 l2 k
theorem zip_next_any {z TI TO i1 i2 l1 l2 : Addr} {k : Nat} {xs ys : Array Value} {x y : Value} {Q : Value → Shared → Prop} (D : ZipApart z TI TO i1 i2 l1 l2)
    (hs : ZSt s.heap z TI TO i1 i2 l1 l2 k) (hl1 : s.heap.IsList l1 xs) (hl2 : s.heap.IsList l2 ys) (hx : xs[k]? = some x) (hy : ys[k]? = some y)
    (hQ : ∀ h', ZSt h' z TI TO i1 i2 l1 l2 (k + 1) → IsPair h' s.heap.objs.size x y → h'.objs.size = s.heap.objs.size + 1 →
      (∀ c o, c ≠ z → c ≠ TO → c ≠ i1 → c ≠ i2 → s.heap.get? c = some o → h'.get? c = some o) → Q (.ref s.heap.objs.size) { s with heap := h' }) :
    wpAny (model prog w) A (Builtin.«zip.__next__» ⟨[.ref z], []⟩) (fun fin s' => ∃ v, fin = .done (.ret v) ∧ Q v s') E s := by
  obtain ⟨⟨f0, f, hz, hf⟩, hTI, ⟨a, b, hTO⟩, h1, h2⟩ := hs
  have free : (∀ (Q : Bool → Shared → Prop), Q true s → wpAny (model prog w) A (Builtin.SmallTypes.ownedTupleIsFree (.ref z)) Q E s) → wpAny (model prog w) A (Builtin.«zip.__next__» ⟨[.ref z], []⟩) (fun fin s' => ∃ v, fin = .done (.ret v) ∧ Q v s') E s := fun hfree =>
    zip_next_free D hz hfree hTI hTO h1 h2 hl1 hl2 hx hy fun h' z' TO' h1' h2' hT hsz hk => hQ h' ⟨⟨_, _, z', .inr ⟨_, rfl⟩⟩, hk _ _ D.TIz D.TITO D.TIi1 D.TIi2 hTI, ⟨_, _, TO'⟩, h1', h2'⟩ hT hsz hk
  rcases hf with ⟨rfl, rfl⟩ | ⟨T, rfl⟩
  · exact free fun Q q => by
      unfold Builtin.SmallTypes.ownedTupleIsFree
      exact wpAny_bind (wpAny_field hz rfl (x := .none) rfl (wpAny_pure q))
  · cases hT : s.heap.get? T with
    | none =>
      exact free fun Q q => by
        unfold Builtin.SmallTypes.ownedTupleIsFree
        refine wpAny_bind (wpAny_field hz rfl (x := rawInt T) rfl ?_)
        show wpAny _ _ (loadIfAlive ((T : Int).toNat) >>= _) _ _ _
        rw [Int.toNat_natCast]
        refine wpAny_bind (alive_any ?_)
        rw [hT]
        exact wpAny_pure q
    | some oT =>
      refine zip_next_item_held D hz hT hTI h1 h2 hl1 hl2 hx hy fun h' z' h1' h2' hp hsz hk => hQ h' ⟨⟨_, _, z', .inr ⟨_, rfl⟩⟩, hk _ _ D.TIz D.TIi1 D.TIi2 hTI, ⟨a, b, hk _ _ D.TOz D.TOi1 D.TOi2 hTO⟩, h1', h2'⟩ hp hsz fun c o c1 _ c3 c4 e => hk c o c1 c3 c4 e
theorem zip_end_free {z TI TO i1 i2 l1 l2 : Addr} {k1 k2 : Nat} {xs ys : Array Value} {a b f0 : Value} {f : Bool} {Q : Fin → Shared → Prop} (hh : A.handled = none) (D : ZipApart z TI TO i1 i2 l1 l2)
    (hz : IsZipS s.heap z TI TO f0 f) (hfree : ∀ (Q : Bool → Shared → Prop), Q true s → wpAny (model prog w) A (Builtin.SmallTypes.ownedTupleIsFree (.ref z)) Q E s) (hTI : IsPair s.heap TI (.ref i1) (.ref i2)) (hTO : IsPair s.heap TO a b)
    (h1 : s.heap.IsListIter i1 l1 k1) (h2 : s.heap.IsListIter i2 l2 k2) (hl1 : s.heap.IsList l1 xs) (hl2 : s.heap.IsList l2 ys) (hend : xs[k1]? = none ∨ ys[k2]? = none)
    (hE : ∀ h' e, (∀ c o, c ≠ z → c ≠ TO → c ≠ i1 → c ≠ i2 → s.heap.get? c = some o → h'.get? c = some o) → (∃ o, h'.get? e = some o ∧ o.cls = .type "StopIteration") → E (.ref e) { s with heap := h' }) :
    wpAny (model prog w) A (Builtin.«zip.__next__» ⟨[.ref z], []⟩) Q E s := by
  show wpAny _ _ (field (.ref z) 2 >>= _) _ _ _
  refine wpAny_bind (wpAny_field hz rfl (x := .bool false) rfl ?_)
  show wpAny _ _ (field (.ref z) 3 >>= _) _ _ _
  refine wpAny_bind (wpAny_field hz rfl (x := .ref TI) rfl ?_)
  refine wpAny_bind (wpAny_seqItems hTI rfl ?_)
  show wpAny _ _ (Builtin.SmallTypes.ownedTupleIsFree (.ref z) >>= _) _ _ _
  refine wpAny_bind (hfree _ ?_)
  simp only [if_true]
  refine wpAny_bind (wpAny_rule ?_)
  refine wpAny_bind (wpAny_field hz rfl (x := .ref TO) rfl ?_)
  refine wpAny_bind (wpAny_setField_rec hz (by simp) fun h₁ hz₁ hs₁ => ?_)
  replace hz₁ : IsZipS h₁ z TI TO .ellipsis f := hz₁
  refine wpAny_bind ?_
  simp only [List.zipIdx_cons, List.zipIdx_nil, List.forIn_cons, List.forIn_nil]
  refine wpAny_bind (wpAny_bind (wpAny_onRaise ?_))
  show wpAny _ _ (Builtin.SmallTypes.nextOf (.ref i1) >>= _) _ _ _
  cases hx : xs[k1]? with
  | none =>
    refine wpAny_bind (wpAny_nextOf_list_end hh (h1.extBut hs₁.extBut D.i1z) (hl1.extBut hs₁.extBut D.l1z) hx fun h₂ e hs₂ he => ?_)
    obtain ⟨oe, hoe, hce⟩ := he
    have hz₂ : IsZipS h₂ z TI TO .ellipsis f := hs₂ _ _ D.i1z.symm hz₁
    have hez : e ≠ z := fun x => by subst x; rw [hz₂] at hoe; cases hoe; simp at hce
    refine wpAny_setField_rec hz₂ (by simp) fun h₃ _ hs₃ => hE h₃ e (fun c o c1 _ c3 _ x => hs₃.extBut _ _ c1 (hs₂ _ _ c3 (hs₁.extBut _ _ c1 x))) ⟨oe, hs₃.extBut _ _ hez hoe, hce⟩
  | some x =>
    have hy : ys[k2]? = none := by rcases hend with h | h; rw [hx] at h; cases h; exact h
    refine wpAny_bind (wpAny_nextOf_list_item (h1.extBut hs₁.extBut D.i1z) (hl1.extBut hs₁.extBut D.l1z) hx fun h₂ h1₂ hs₂ => wpAny_pure ?_)
    have hTO₂ : IsPair h₂ TO a b := hs₂.extBut _ _ D.TOi1 (hs₁.extBut _ _ D.TOz hTO)
    refine wpAny_bind (wpAny_seqItems hTO₂ rfl ?_)
    refine wpAny_bind (wpAny_updateSeq_pair hTO₂ fun h₃ hTO₃ hs₃ => ?_)
    refine wpAny_bind (wpAny_letGo (wpAny_pure ?_))
    refine wpAny_bind (wpAny_bind (wpAny_onRaise ?_))
    show wpAny _ _ (Builtin.SmallTypes.nextOf (.ref i2) >>= _) _ _ _
    refine wpAny_bind (wpAny_nextOf_list_end hh (((h2.extBut hs₁.extBut D.i2z).extBut hs₂.extBut D.i12.symm).extBut hs₃.extBut D.TOi2.symm)
      (((hl2.extBut hs₁.extBut D.l2z).extBut hs₂.extBut D.l2i1).extBut hs₃.extBut D.l2TO) hy fun h₄ e hs₄ he => ?_)
    obtain ⟨oe, hoe, hce⟩ := he
    have hz₄ : IsZipS h₄ z TI TO .ellipsis f := hs₄ _ _ D.i2z.symm (hs₃.extBut _ _ D.TOz.symm (hs₂.extBut _ _ D.i1z.symm hz₁))
    have hez : e ≠ z := fun x => by subst x; rw [hz₄] at hoe; cases hoe; simp at hce
    refine wpAny_setField_rec hz₄ (by simp) fun h₅ _ hs₅ => hE h₅ e (fun c o c1 c2 c3 c4 x => hs₅.extBut _ _ c1 (hs₄ _ _ c4 (hs₃.extBut _ _ c2 (hs₂.extBut _ _ c3 (hs₁.extBut _ _ c1 x))))) ⟨oe, hs₅.extBut _ _ hez hoe, hce⟩
theorem zip_end_any {z TI TO i1 i2 l1 l2 : Addr} {k : Nat} {xs ys : Array Value} {Q : Fin → Shared → Prop} (hh : A.handled = none) (D : ZipApart z TI TO i1 i2 l1 l2)
    (hs : ZSt s.heap z TI TO i1 i2 l1 l2 k) (hl1 : s.heap.IsList l1 xs) (hl2 : s.heap.IsList l2 ys) (hend : xs[k]? = none ∨ ys[k]? = none)
    (hE : ∀ h' e, (∀ c o, c ≠ z → c ≠ TO → c ≠ i1 → c ≠ i2 → s.heap.get? c = some o → h'.get? c = some o) → (∃ o, h'.get? e = some o ∧ o.cls = .type "StopIteration") → E (.ref e) { s with heap := h' }) :
    wpAny (model prog w) A (Builtin.«zip.__next__» ⟨[.ref z], []⟩) Q E s := by
  obtain ⟨⟨f0, f, hz, hf⟩, hTI, ⟨a, b, hTO⟩, h1, h2⟩ := hs
  have free : (∀ (Q : Bool → Shared → Prop), Q true s → wpAny (model prog w) A (Builtin.SmallTypes.ownedTupleIsFree (.ref z)) Q E s) → wpAny (model prog w) A (Builtin.«zip.__next__» ⟨[.ref z], []⟩) Q E s := fun hfree =>
    zip_end_free hh D hz hfree hTI hTO h1 h2 hl1 hl2 hend hE
  rcases hf with ⟨rfl, rfl⟩ | ⟨T, rfl⟩
  · exact free fun Q q => by
      unfold Builtin.SmallTypes.ownedTupleIsFree
      exact wpAny_bind (wpAny_field hz rfl (x := .none) rfl (wpAny_pure q))
  · cases hT : s.heap.get? T with
    | none =>
      exact free fun Q q => by
        unfold Builtin.SmallTypes.ownedTupleIsFree
        refine wpAny_bind (wpAny_field hz rfl (x := rawInt T) rfl ?_)
        show wpAny _ _ (loadIfAlive ((T : Int).toNat) >>= _) _ _ _
        rw [Int.toNat_natCast]
        refine wpAny_bind (alive_any ?_)
        rw [hT]
        exact wpAny_pure q
    | some oT => exact zip_next_end_held hh D hz hT hTI h1 h2 hl1 hl2 hend fun h' e hk he => hE h' e (fun c o c1 _ c3 c4 x => hk c o c1 c3 c4 x) he
theorem ZSt.typeIs {z TI TO i1 i2 l1 l2 : Addr} {k : Nat} (hs : ZSt s.heap z TI TO i1 i2 l1 l2 k) : s.TypeIs (.ref z) "zip" := by
  obtain ⟨⟨f0, f, hz, _⟩, _⟩ := hs
  exact ⟨_, hz, rfl⟩
theorem nextOf_zip_item {z TI TO i1 i2 l1 l2 : Addr} {k : Nat} {xs ys : Array Value} {x y : Value} {Q : Value → Shared → Prop} (D : ZipApart z TI TO i1 i2 l1 l2)
    (hs : ZSt s.heap z TI TO i1 i2 l1 l2 k) (hl1 : s.heap.IsList l1 xs) (hl2 : s.heap.IsList l2 ys) (hx : xs[k]? = some x) (hy : ys[k]? = some y)
    (hQ : ∀ h', ZSt h' z TI TO i1 i2 l1 l2 (k + 1) → IsPair h' s.heap.objs.size x y → h'.objs.size = s.heap.objs.size + 1 →
      (∀ c o, c ≠ z → c ≠ TO → c ≠ i1 → c ≠ i2 → s.heap.get? c = some o → h'.get? c = some o) → Q (.ref s.heap.objs.size) { s with heap := h' }) :
    wpAny (model prog w) A (Builtin.SmallTypes.nextOf (.ref z)) Q E s := by
  have hT := hs.typeIs
  unfold Builtin.SmallTypes.nextOf
  refine wpAny_bind (wpAny_callSpecial?_slot (name := Str.ofString "__next__") hT F.slot_zip_next
    (wpAny_call_entry F.slot_zip_next hT F.entry_zip_next ?_ (F.args_zip_next_1 _)))
  exact zip_next_any D hs hl1 hl2 hx hy fun h' a b c d => wpAny_pure (hQ h' a b c d)
theorem nextOf_zip_end {z TI TO i1 i2 l1 l2 : Addr} {k : Nat} {xs ys : Array Value} {Q : Value → Shared → Prop} (hh : A.handled = none) (D : ZipApart z TI TO i1 i2 l1 l2)
    (hs : ZSt s.heap z TI TO i1 i2 l1 l2 k) (hl1 : s.heap.IsList l1 xs) (hl2 : s.heap.IsList l2 ys) (hend : xs[k]? = none ∨ ys[k]? = none)
    (hE : ∀ h' e, (∀ c o, c ≠ z → c ≠ TO → c ≠ i1 → c ≠ i2 → s.heap.get? c = some o → h'.get? c = some o) → (∃ o, h'.get? e = some o ∧ o.cls = .type "StopIteration") → E (.ref e) { s with heap := h' }) :
    wpAny (model prog w) A (Builtin.SmallTypes.nextOf (.ref z)) Q E s := by
  have hT := hs.typeIs
  unfold Builtin.SmallTypes.nextOf
  exact wpAny_bind (wpAny_callSpecial?_slot (name := Str.ofString "__next__") hT F.slot_zip_next
    (wpAny_call_entry F.slot_zip_next hT F.entry_zip_next (zip_end_any hh D hs hl1 hl2 hend hE) (F.args_zip_next_1 _)))
theorem meets_enumerate_newZ (z TI TO : Addr) :
    Meets (Builtin.«enumerate.__new__» ⟨[.type "enumerate", .ref z], []⟩) (fun _ R s => IsZip s.heap z TI TO .none ∧
      R (.ok (.ret (.ref s.heap.objs.size))) { s with heap := s.heap.push { cls := .type "enumerate", data := .fields #[.none, .bool false, .ref z, rawInt 0, .none, .none] } }) :=
  .of_wp fun prog w A R s h => by
    obtain ⟨hp, g, d, tk, os⟩ := s; obtain ⟨hz, h⟩ := h
    have hsub := sub_enumerate
    have hL : IsZip (Shared.heap ⟨hp, g, d, tk, os⟩) z TI TO .none := hz
    wp_walk using AutoSeq1.wpAny_loadPart' hz
    refine wpAny_stack_any fun st => wpAny_pure ?_
    split
    · rename_i c _ _ _ _ _
      cases (c == Value.type "enumerate")
      · wp_walk using AutoSeq1.wpAny_loadPart' hz, wpAny_pyIter_zip hL
        exact ⟨_, rfl, h⟩
      · wp_walk using AutoSeq1.wpAny_loadPart' hz, wpAny_pyIter_zip hL
        exact ⟨_, rfl, h⟩
    · wp_walk using AutoSeq1.wpAny_loadPart' hz, wpAny_pyIter_zip hL
      exact ⟨_, rfl, h⟩
theorem call_enumerate_zip {z TI TO : Addr} {Q : Value → Shared → Prop} (hz : IsZip s.heap z TI TO .none)
    (h : ∀ h', IsEnum h' s.heap.objs.size z 0 .none → h'.objs.size = s.heap.objs.size + 1 → (∀ b o, s.heap.get? b = some o → h'.get? b = some o) → Q (.ref s.heap.objs.size) { s with heap := h' }) :
    wpAny (model prog w) A (call (.type "enumerate") [.ref z]) Q E s := by
  refine callType_new F.called_enumerate (by decide) (F.typeCall_enumerate_1 _) (F.newCall_enumerate_1 _) (fun obj => F.args_object_init_2 obj _) F.entry_enumerate_new
    (meets_enumerate_newZ z TI TO) ⟨hz, ?_⟩
  have he : IsEnum (s.heap.push { cls := .type "enumerate", data := .fields #[.none, .bool false, .ref z, rawInt 0, .none, .none] }) s.heap.objs.size z 0 .none := Heap.get?_push_size _ rfl
  exact ⟨⟨_, he, rfl⟩, h _ he (by rw [Heap.size_push]) fun b o x => Heap.get?_push_of_some _ x⟩
theorem enumZ_next {e z TI TO i1 i2 l1 l2 : Addr} {k : Nat} {c : Int} {xs ys : Array Value} {x y old : Value} {Q : Value → Shared → Prop} (D : ZipApart z TI TO i1 i2 l1 l2) (he : IsEnum s.heap e z c old)
    (hs : ZSt s.heap z TI TO i1 i2 l1 l2 k) (hl1 : s.heap.IsList l1 xs) (hl2 : s.heap.IsList l2 ys) (hx : xs[k]? = some x) (hy : ys[k]? = some y) (n1 : e ≠ z) (n2 : e ≠ TO) (n3 : e ≠ i1) (n4 : e ≠ i2)
    (hQ : ∀ h₁ h' tk, ZSt h₁ z TI TO i1 i2 l1 l2 (k + 1) → IsPair h₁ s.heap.objs.size x y → h₁.objs.size = s.heap.objs.size + 1 → (∀ b o, b ≠ z → b ≠ TO → b ≠ i1 → b ≠ i2 → s.heap.get? b = some o → h₁.get? b = some o) →
      IsEnumOut h' e z (c + 1) (.ref s.heap.objs.size) h₁.objs.size → h'.get? h₁.objs.size = some { cls := .type "tuple", data := .seq #[.int c tk, .ref s.heap.objs.size] } → h'.objs.size = h₁.objs.size + 1 →
      (∀ b o, b ≠ e → h₁.get? b = some o → h'.get? b = some o) → Q (.ref h₁.objs.size) { s with heap := h', toks := tk + 1 }) :
    wpAny (model prog w) A (Builtin.«enumerate.__next__» ⟨[.ref e], []⟩) (fun fin s' => ∃ v, fin = .done (.ret v) ∧ Q v s') E s := by
  obtain ⟨hp, g, d, tk, os⟩ := s
  show wpAny _ _ (field (.ref e) 2 >>= _) _ _ _
  refine wpAny_bind (wpAny_field he rfl (x := .ref z) rfl ?_)
  refine wpAny_bind (nextOf_zip_item D hs hl1 hl2 hx hy fun h₁ hs₁ hp₁ hz₁ hk₁ => ?_)
  replace hk₁ : ∀ b o, b ≠ z → b ≠ TO → b ≠ i1 → b ≠ i2 → hp.get? b = some o → h₁.get? b = some o := hk₁
  have he₁ : IsEnum h₁ e z c old := hk₁ _ _ n1 n2 n3 n4 he
  show wpAny _ _ (field (.ref e) 3 >>= _) _ _ ⟨h₁, g, d, tk, os⟩
  refine wpAny_bind (wpAny_field he₁ rfl (x := rawInt c) rfl ?_)
  show wpAny _ _ (field (.ref e) 4 >>= _) _ _ ⟨h₁, g, d, tk, os⟩
  refine wpAny_bind (wpAny_field he₁ rfl (x := .none) rfl ?_)
  show wpAny _ _ (mkInt c >>= _) _ _ ⟨h₁, g, d, tk, os⟩
  refine wpAny_bind (wpAny_mkInt ?_)
  show wpAny _ _ (setField (.ref e) 3 (rawInt (c + 1)) >>= _) _ _ ⟨h₁, g, d, tk + 1, os⟩
  refine wpAny_bind (wpAny_setField_rec he₁ (by simp) fun h₂ he₂ hs₂ => ?_)
  replace hs₂ : Heap.SameBut e h₁ h₂ := hs₂
  replace he₂ : IsEnum h₂ e z (c + 1) old := he₂
  show wpAny _ _ (setField (.ref e) 4 .none >>= _) _ _ ⟨h₂, g, d, tk + 1, os⟩
  refine wpAny_bind (wpAny_setField_rec he₂ (by simp) fun h₃ he₃ hs₃ => ?_)
  replace hs₃ : Heap.SameBut e h₂ h₃ := hs₃
  replace he₃ : IsEnum h₃ e z (c + 1) old := he₃
  show wpAny _ _ (newTuple [.int c tk, .ref hp.objs.size] >>= _) _ _ ⟨h₃, g, d, tk + 1, os⟩
  refine wpAny_bind (wpAny_newTuple ?_)
  have he₄ : IsEnum (h₃.push { cls := .type "tuple", data := .seq #[.int c tk, .ref hp.objs.size] }) e z (c + 1) old := Heap.get?_push_of_some _ he₃
  generalize hh₄ : h₃.push { cls := .type "tuple", data := .seq #[.int c tk, .ref hp.objs.size] } = h₄ at he₄
  have hsz : h₃.objs.size = h₁.objs.size := by rw [hs₃.1, hs₂.1]
  have hel : e < h₁.objs.size := Heap.lt_size he₁
  have ht₄ : h₄.get? h₁.objs.size = some { cls := .type "tuple", data := .seq #[.int c tk, .ref hp.objs.size] } := by rw [← hh₄, ← hsz]; exact Heap.get?_push_size _ rfl
  have hz₄ : h₄.objs.size = h₁.objs.size + 1 := by rw [← hh₄, Heap.size_push, hsz]
  have hk₄ : ∀ b o, b ≠ e → h₁.get? b = some o → h₄.get? b = some o := fun b o hbe hb => by
    rw [← hh₄]; exact Heap.get?_push_of_some _ (hs₃.extBut b o hbe (hs₂.extBut b o hbe hb))
  show wpAny _ _ (Builtin.SmallTypes.ownedTupleIsFree (.ref e) >>= _) _ _ ⟨h₄, g, d, tk + 1, os⟩
  rw [hsz]
  clear hh₄ he₃ hs₃ he₂ hs₂ hsz h₃ h₂
  refine wpAny_bind ?_
  unfold Builtin.SmallTypes.ownedTupleIsFree
  refine wpAny_bind (wpAny_field he₄ rfl (x := .none) rfl (wpAny_pure ?_))
  simp only [if_true]
  refine wpAny_bind (wpAny_rule ?_)
  refine wpAny_bind (wpAny_field he₄ rfl (x := old) rfl ?_)
  refine wpAny_bind (wpAny_setField_rec he₄ (by simp) fun h₅ he₅ hs₅ => ?_)
  replace hs₅ : Heap.SameBut e h₄ h₅ := hs₅
  replace he₅ : IsEnum h₅ e z (c + 1) (.ref hp.objs.size) := he₅
  show wpAny _ _ (Builtin.SmallTypes.ownedTupleHandOut (.ref e) (.ref h₁.objs.size) >>= _) _ _ ⟨h₅, g, d, tk + 1, os⟩
  refine wpAny_bind ?_
  unfold Builtin.SmallTypes.ownedTupleHandOut
  refine wpAny_bind (wpAny_setField_rec he₅ (by simp) fun h₆ he₆ hs₆ => ?_)
  replace hs₆ : Heap.SameBut e h₅ h₆ := hs₆
  replace he₆ : IsEnumOut h₆ e z (c + 1) (.ref hp.objs.size) h₁.objs.size := he₆
  refine wpAny_setField_rec he₆ (by simp) fun h₇ he₇ hs₇ => ?_
  replace hs₇ : Heap.SameBut e h₆ h₇ := hs₇
  replace he₇ : IsEnumOut h₇ e z (c + 1) (.ref hp.objs.size) h₁.objs.size := he₇
  refine wpAny_bind (wpAny_letGo (wpAny_pure ⟨_, rfl, hQ h₁ h₇ tk hs₁ hp₁ hz₁ hk₁ he₇ ?_ ?_ ?_⟩))
  · exact hs₇.extBut _ _ (Nat.ne_of_gt hel) (hs₆.extBut _ _ (Nat.ne_of_gt hel) (hs₅.extBut _ _ (Nat.ne_of_gt hel) ht₄))
  · rw [hs₇.1, hs₆.1, hs₅.1, hz₄]
  · exact fun b o hbe hb => hs₇.extBut b o hbe (hs₆.extBut b o hbe (hs₅.extBut b o hbe (hk₄ b o hbe hb)))
theorem wpAny_pyNext_enumZ_item {e z TI TO i1 i2 l1 l2 : Addr} {k : Nat} {c : Int} {xs ys : Array Value} {x y old : Value} {Q : Option Value → Shared → Prop} (D : ZipApart z TI TO i1 i2 l1 l2) (he : IsEnum s.heap e z c old)
    (hs : ZSt s.heap z TI TO i1 i2 l1 l2 k) (hl1 : s.heap.IsList l1 xs) (hl2 : s.heap.IsList l2 ys) (hx : xs[k]? = some x) (hy : ys[k]? = some y) (n1 : e ≠ z) (n2 : e ≠ TO) (n3 : e ≠ i1) (n4 : e ≠ i2)
    (hQ : ∀ h₁ h' tk, ZSt h₁ z TI TO i1 i2 l1 l2 (k + 1) → IsPair h₁ s.heap.objs.size x y → h₁.objs.size = s.heap.objs.size + 1 → (∀ b o, b ≠ z → b ≠ TO → b ≠ i1 → b ≠ i2 → s.heap.get? b = some o → h₁.get? b = some o) →
      IsEnumOut h' e z (c + 1) (.ref s.heap.objs.size) h₁.objs.size → h'.get? h₁.objs.size = some { cls := .type "tuple", data := .seq #[.int c tk, .ref s.heap.objs.size] } → h'.objs.size = h₁.objs.size + 1 →
      (∀ b o, b ≠ e → h₁.get? b = some o → h'.get? b = some o) → Q (some (.ref h₁.objs.size)) { s with heap := h', toks := tk + 1 }) :
    wpAny (model prog w) A (pyNext (.ref e)) Q E s := by
  have hT : s.TypeIs (.ref e) "enumerate" := ⟨_, he, rfl⟩
  unfold pyNext
  exact wpAny_bind (wpAny_attempt (wpAny_callSpecial?_slot (name := Str.ofString "__next__") hT F.slot_enumerate_next
    (wpAny_call_entry F.slot_enumerate_next hT F.entry_enumerate_next
      (enumZ_next D he hs hl1 hl2 hx hy n1 n2 n3 n4 fun h₁ h' tk a b c' d e' f g j => wpAny_pure (hQ h₁ h' tk a b c' d e' f g j)) (F.args_enumerate_next_1 _))))
theorem wpAny_pyNext_enumZ_end {e z TI TO i1 i2 l1 l2 : Addr} {k : Nat} {c : Int} {xs ys : Array Value} {old : Value} {Q : Option Value → Shared → Prop} (hh : A.handled = none) (D : ZipApart z TI TO i1 i2 l1 l2) (he : IsEnum s.heap e z c old)
    (hs : ZSt s.heap z TI TO i1 i2 l1 l2 k) (hl1 : s.heap.IsList l1 xs) (hl2 : s.heap.IsList l2 ys) (hend : xs[k]? = none ∨ ys[k]? = none)
    (hQ : ∀ h', (∀ b o, b ≠ z → b ≠ TO → b ≠ i1 → b ≠ i2 → s.heap.get? b = some o → h'.get? b = some o) → Q none { s with heap := h' }) :
    wpAny (model prog w) A (pyNext (.ref e)) Q E s := by
  have hT : s.TypeIs (.ref e) "enumerate" := ⟨_, he, rfl⟩
  unfold pyNext
  refine wpAny_bind (wpAny_attempt (wpAny_callSpecial?_slot (name := Str.ofString "__next__") hT F.slot_enumerate_next
    (wpAny_call_entry F.slot_enumerate_next hT F.entry_enumerate_next ?_ (F.args_enumerate_next_1 _))))
  show wpAny _ _ (field (.ref e) 2 >>= _) _ _ _
  refine wpAny_bind (wpAny_field he rfl (x := .ref z) rfl ?_)
  refine wpAny_bind (nextOf_zip_end hh D hs hl1 hl2 hend fun h' x hk hx' => ?_)
  obtain ⟨o, ho, hc⟩ := hx'
  refine wpAny_bind (wpAny_isInstance (T := "StopIteration") (b := true) ⟨o, ho, hc⟩ isSubtype_stop ?_)
  exact wpAny_pure (hQ _ hk)
end
/-- the lists at a and b as they stand at each turn, the items in new pairs, numbered in new pairs -/
def Itez (K : PySem.W.Frag) (a b : Addr) : It :=
  ⟨fun i H => ∃ (xs ys : List V) (x y : V), SqL K H a xs ∧ SqL K H b ys ∧ xs[i]? = some x ∧ ys[i]? = some y,
    fun i H v H' => ∃ T T2 x y, v = .ref T ∧ H T2 = none ∧ (upd H T2 (.tup [x, y])) T = none ∧ H' = upd (upd H T2 (.tup [x, y])) T (.tup [.int (i : Nat), .ref T2]) ∧ (∀ xs, SqL K H a xs → xs[i]? = some x) ∧ ∀ ys, SqL K H b ys → ys[i]? = some y,
    fun i H => ∃ xs ys : List V, SqL K H a xs ∧ SqL K H b ys ∧ (xs.length ≤ i ∨ ys.length ≤ i)⟩
theorem turn_enumZip {P : Program} {w : World} {K : PySem.W.Frag} {elts : List Expr} {kk : Nat} {tpos : Pos} {a b e z TI TO i1 i2 : Addr} (D : ZipApart z TI TO i1 i2 a b) (n1 : e ≠ z) (n2 : e ≠ TO) (n3 : e ≠ i1) (n4 : e ≠ i2) (n5 : e ≠ TI) :
    Turn P w K (.Tuple elts kk tpos) (Itez K a b) [e, z, TI, TO, i1, i2] e (fun i h => (∃ old, IsEnum h e z ((i : Nat) : Int) old) ∧ ZSt h z TI TO i1 i2 a b i) where
  mem := by simp
  obj := fun i h st c hc => by
    obtain ⟨⟨old, he⟩, ⟨f0, f, hz, _⟩, hTI, ⟨x, y, hTO⟩, ⟨o1, e1, _, d1⟩, ⟨o2, e2, _, d2⟩⟩ := st
    have e' : c = e ∨ c = z ∨ c = TI ∨ c = TO ∨ c = i1 ∨ c = i2 := by simpa using hc
    rcases e' with q | q | q | q | q | q
    · rw [q]; exact ⟨_, he, fun v q => nomatch q⟩
    · rw [q]; exact ⟨_, hz, fun v q => nomatch q⟩
    · rw [q]; exact ⟨_, hTI, fun v q => nomatch q⟩
    · rw [q]; exact ⟨_, hTO, fun v q => nomatch q⟩
    · rw [q]; exact ⟨o1, e1, fun v q => by rw [d1] at q; cases q⟩
    · rw [q]; exact ⟨o2, e2, fun v q => by rw [d2] at q; cases q⟩
  keep := fun i h h' st k => by
    obtain ⟨⟨old, he⟩, ⟨f0, f, hz, hf⟩, hTI, ⟨x, y, hTO⟩, h1, h2⟩ := st
    exact ⟨⟨old, k e (by simp) _ he⟩, ⟨f0, f, k z (by simp) _ hz, hf⟩, k TI (by simp) _ hTI, ⟨x, y, k TO (by simp) _ hTO⟩, h1.at fun o q => k i1 (by simp) o q, h2.at fun o q => k i2 (by simp) o q⟩
  item := by
    intro X hP hw hK hc i pins s σ H E I hf st hg
    subst hP hw hK
    obtain ⟨⟨old, he⟩, hs⟩ := st
    obtain ⟨xs, ys, x, y, hqx, hqy, hx, hy⟩ := hg
    obtain ⟨its, rv, p, _⟩ := I.list hqx
    obtain ⟨its2, rv2, p2, _⟩ := I.list hqy
    obtain ⟨u, hu, ru⟩ := rv.get hx
    obtain ⟨u2, hu2, ru2⟩ := rv2.get hy
    have hel : e < s.heap.objs.size := Heap.lt_size he
    have fpl : ∀ c ∈ [e, z, TI, TO, i1, i2], c < s.heap.objs.size := fun c hcm => by
      obtain ⟨⟨f0, f, hz, _⟩, hTI, ⟨x, y, hTO⟩, ⟨o1, e1, _⟩, ⟨o2, e2, _⟩⟩ := hs
      have e' : c = e ∨ c = z ∨ c = TI ∨ c = TO ∨ c = i1 ∨ c = i2 := by simpa using hcm
      rcases e' with q | q | q | q | q | q
      · rw [q]; exact hel
      · rw [q]; exact Heap.lt_size hz
      · rw [q]; exact Heap.lt_size hTI
      · rw [q]; exact Heap.lt_size hTO
      · rw [q]; exact Heap.lt_size e1
      · rw [q]; exact Heap.lt_size e2
    refine wpAny_pyNext_enumZ_item D he hs p.isList p2.isList (x := u) (y := u2) (by simpa using hu) (by simpa using hu2) n1 n2 n3 n4 fun h₁ h' tk hs₁ hp₁ hz₁ hk₁ ho hT hsz hk => ?_
    refine ⟨_, rfl, wpAny_letOwnedTupleGo_enum (s := { s with heap := h', toks := tk + 1 }) ho fun h'' he'' sb => ?_⟩
    have hel1 : e < h₁.objs.size := by rw [hz₁]; exact Nat.lt_succ_of_lt hel
    have hk2 : ∀ c o, c ≠ e → h₁.get? c = some o → h''.get? c = some o := fun c o hce q => (sb.2 c hce).trans (hk c o hce q)
    have hT2 : h''.get? h₁.objs.size = some { cls := .type "tuple", data := .seq #[.int i tk, .ref s.heap.objs.size] } := (sb.2 _ (Nat.ne_of_gt hel1)).trans hT
    have new1 : ObjOk X.prog X.w (upd H s.heap.objs.size (.tup [x, y])) h₁ s.heap.objs.size (.tup [x, y]) :=
      ⟨by show 2 ≤ sizeLine; decide, [u, u2], .cons ru (.cons ru2 .nil), ⟨_, hp₁, rfl, _, rfl⟩⟩
    have I1 : Inv X pins σ (upd H s.heap.objs.size (.tup [x, y])) { s with heap := h₁ } :=
      I.turnedNew (t' := s.toks) (ch := [z, TI, TO, i1, i2]) (fun c o hb q => hk₁ c o (fun q' => hb (by simp [q'])) (fun q' => hb (by simp [q'])) (fun q' => hb (by simp [q'])) (fun q' => hb (by simp [q'])) q) (fun c hcm => hf c (List.mem_cons_of_mem _ hcm)) (Nat.le_refl _) new1
    have hf1 : ∀ c ∈ [e, z, TI, TO, i1, i2], FpOk X pins (upd H s.heap.objs.size (.tup [x, y])) c := fun c hcm => by
      obtain ⟨f0, fr⟩ := hf c hcm
      exact ⟨by rw [upd_ne (Nat.ne_of_lt (fpl c hcm))]; exact f0, fr⟩
    have fr2 : (upd H s.heap.objs.size (.tup [x, y])) h₁.objs.size = none := I1.hok.fresh (Nat.le_refl _)
    have new2 : ObjOk X.prog X.w (upd (upd H s.heap.objs.size (.tup [x, y])) h₁.objs.size (.tup [.int (i : Nat), .ref s.heap.objs.size])) h'' h₁.objs.size (.tup [.int (i : Nat), .ref s.heap.objs.size]) :=
      ⟨by show 2 ≤ sizeLine; decide, [.int i tk, .ref s.heap.objs.size], .cons ⟨_, rfl⟩ (.cons rfl .nil), ⟨_, hT2, rfl, _, rfl⟩⟩
    have I2 : Inv X pins σ (upd (upd H s.heap.objs.size (.tup [x, y])) h₁.objs.size (.tup [.int (i : Nat), .ref s.heap.objs.size])) { s with heap := h'', toks := tk + 1 } :=
      I1.turnedNew (t' := tk + 1) (ch := [e]) (fun c o hb q => hk2 c o (fun q' => hb (by simp [q'])) q) (fun c hcm => by
        have : c = e := by simpa using hcm
        rw [this]; exact hf1 e (by simp)) (Nat.le_refl _) new2
    refine ⟨.ref h₁.objs.size, _, I2, rfl, ⟨_, _, x, y, rfl, I.hok.fresh (Nat.le_refl _), fr2, rfl, fun l hl => by rw [I.list_inj hl hqx]; exact hx, fun l hl => by rw [I.list_inj hl hqy]; exact hy⟩, ⟨⟨.ref s.heap.objs.size, ?_⟩, ?_⟩, fun c hcm => ?_⟩
    · have e1 : ((i + 1 : Nat) : Int) = (i : Int) + 1 := by omega
      rw [e1]; exact he''
    · obtain ⟨⟨f0, f, hz, hf⟩, hTI, ⟨x, y, hTO⟩, h1, h2⟩ := hs₁
      exact ⟨⟨f0, f, hk2 _ _ n1.symm hz, hf⟩, hk2 _ _ n5.symm hTI, ⟨x, y, hk2 _ _ n2.symm hTO⟩, h1.at fun o q => hk2 _ o n3.symm q, h2.at fun o q => hk2 _ o n4.symm q⟩
    · have hlt := fpl c hcm
      rw [upd_ne (by rw [hz₁]; exact Nat.ne_of_lt (Nat.lt_succ_of_lt hlt))]
      exact (hf1 c hcm).1
  done := by
    intro X hP hw hK hc i pins s σ H E I hf st hg
    subst hP hw hK
    obtain ⟨⟨old, he⟩, hs⟩ := st
    obtain ⟨xs, ys, hqx, hqy, hend⟩ := hg
    obtain ⟨its, rv, p, _⟩ := I.list hqx
    obtain ⟨its2, rv2, p2, _⟩ := I.list hqy
    have l1 := rv.length
    have l2 := rv2.length
    have he' : its.toArray[i]? = none ∨ its2.toArray[i]? = none := by
      rcases hend with q | q
      · exact .inl (by simp; omega)
      · exact .inr (by simp; omega)
    exact wpAny_pyNext_enumZ_end (I.ok.hd hc) D he hs p.isList p2.isList he' fun h' hk => ⟨rfl, I.turnedL (t' := s.toks) (ch := [e, z, TI, TO, i1, i2]) (fun c o hb q =>
      hk c o (fun q' => hb (by simp [q'])) (fun q' => hb (by simp [q'])) (fun q' => hb (by simp [q'])) (fun q' => hb (by simp [q'])) q) hf⟩
  self := fun A i s Q E st h => let ⟨⟨_, he⟩, _⟩ := st; wpAny_pyIter_enum he h
def iEnumZip (K : PySem.W.Frag) (ta : TA) : TI := fun σ H R => ta σ H fun vs H1 => ∃ a b xs ys, vs = [.ref a, .ref b] ∧ SqL K H1 a xs ∧ SqL K H1 b ys ∧ R (Itez K a b) H1
theorem pi_enumZip {X : Cx} {e e2 : Expr} {ta : TA} {p pos tpos p' pos' : Pos} {elts : List Expr} {kk : Nat} (hg : Gl X "enumerate") (hm : X.mg "enumerate" = none) (hg2 : Gl X "zip") (hm2 : X.mg "zip" = none) (ha : PA X [e, e2] ta)
    (hs : starEach [e, e2] X.env = (false, eval e X.env) :: starEach [e2] X.env := by rfl) (hpl : (backTo pos' (starEach [e2] X.env)).any (·.1) = false := by rfl)
    (ho : starEach [.Call (.Name "zip" p') [e, e2] [] pos'] X.env = [(false, eval (.Call (.Name "zip" p') [e, e2] [] pos') X.env)] := by rfl) :
    PI X (.Tuple elts kk tpos) (.Call (.Name "enumerate" p) [.Call (.Name "zip" p') [e, e2] [] pos'] [] pos) (iEnumZip X.K ta) := by
  refine ⟨fun pins s σ H R I h => ?_⟩
  refine Call_ (ld_blt I hg hm boot_enumerate (PyProof.Rows.callWith_type1 ?_ ho rfl))
  rw [ho]
  show wpAny _ _ (spliced [(false, eval (.Call (.Name "zip" p') [e, e2] [] pos') X.env)]) _ _ s
  refine Calls.spliced_cons ?_
  refine Call_ (ld_blt I hg2 hm2 PyProof.Rows.boot_zip (PyProof.Rows.callWith_type1 (thn (ha.run pos' pins s σ H _ I h) fun us s1 ⟨vs, H1, I1, r1, q1⟩ => ?_) hs hpl))
  obtain ⟨a, b, xs, ys, ex, hqx, hqy, q⟩ := q1
  subst ex
  cases r1 with
  | cons r rr =>
    cases rr with
    | cons r' rr =>
      cases rr
      cases r
      cases r'
      obtain ⟨its, rv, p1, _⟩ := I1.list hqx
      obtain ⟨its2, rv2, p2, _⟩ := I1.list hqy
      have la : a < s1.heap.objs.size := p1.lt
      have lb : b < s1.heap.objs.size := p2.lt
      refine call_zip_2 p1.isList p2.isList fun h' hz hTI hTO h1 h2 hsz hk => Calls.spliced_nil ?_
      refine call_enumerate_zip (s := { s1 with heap := h' }) hz fun h'' he hsz2 hk2 => wpAny_pyIter_enum he ?_
      have hk3 : ∀ c o, s1.heap.get? c = some o → h''.get? c = some o := fun c o q => hk2 c o (hk c o q)
      have I2 : Inv X pins σ H1 { s1 with heap := h'' } := I1.kept (t' := s1.toks) hk3
      have hs0 : h'.objs.size = s1.heap.objs.size + 5 := hsz
      have ne : ∀ j : Nat, j < 5 → h'.objs.size ≠ s1.heap.objs.size + j := fun j hj q => by rw [hs0] at q; exact absurd (Nat.add_left_cancel q) (Nat.ne_of_gt hj)
      refine ⟨h'.objs.size, [h'.objs.size, s1.heap.objs.size + 4, s1.heap.objs.size + 2, s1.heap.objs.size + 3, s1.heap.objs.size, s1.heap.objs.size + 1], _, _, H1, rfl, I2, turn_enumZip (PySem.W.ktu_apart s1.heap.objs.size a b la lb) (ne 4 (by decide)) (ne 3 (by decide)) (ne 0 (by decide)) (ne 1 (by decide)) (ne 2 (by decide)), ⟨⟨.none, he⟩, ⟨.none, false, hk2 _ _ hz, .inl ⟨rfl, rfl⟩⟩, hk2 _ _ hTI, ⟨_, _, hk2 _ _ hTO⟩, h1.at fun o q => hk2 _ o q, h2.at fun o q => hk2 _ o q⟩, fun c hcm => ?_, q⟩
      have e' : c = h'.objs.size ∨ c = s1.heap.objs.size + 4 ∨ c = s1.heap.objs.size + 2 ∨ c = s1.heap.objs.size + 3 ∨ c = s1.heap.objs.size ∨ c = s1.heap.objs.size + 1 := by simpa using hcm
      have hle : s1.heap.objs.size ≤ c := by
        rcases e' with z | z | z | z | z | z
        · rw [z, hs0]; exact Nat.le_add_right _ _
        · rw [z]; exact Nat.le_add_right _ _
        · rw [z]; exact Nat.le_add_right _ _
        · rw [z]; exact Nat.le_add_right _ _
        · rw [z]; exact Nat.le_refl _
        · rw [z]; exact Nat.le_add_right _ _
      exact I1.fpOk hle (I1.hok.fresh hle)
end L2
namespace L2
open PySem PySem.Spec PyProof.Rows
def YNum (xs ys : Nat → Option V) : Nat → Hp → V → Hp → Prop := fun i H v H' => ∃ T T2 x y, v = .ref T ∧ H T2 = none ∧ (upd H T2 (.tup [x, y])) T = none ∧ H' = upd (upd H T2 (.tup [x, y])) T (.tup [.int (i : Nat), .ref T2]) ∧ xs i = some x ∧ ys i = some y
theorem walk_enumZip {K : PySem.W.Frag} {a b : Addr} {xs ys : List V} {n : Nat} (hn : n = min xs.length ys.length) : Walk (Itez K a b) n (fun H => SqL K H a xs ∧ SqL K H b ys) (YNum (fun i => xs[i]?) (fun i => ys[i]?)) := by
  subst hn
  refine ⟨fun i _ hi q => ?_, fun _ q => ⟨xs, ys, q.1, q.2, by omega⟩, fun i H v H' _ q y => ?_⟩
  · have h1 : i < xs.length := by omega
    have h2 : i < ys.length := by omega
    exact ⟨xs, ys, xs[i], ys[i], q.1, q.2, by simp [h1], by simp [h2]⟩
  · obtain ⟨T, T2, x, z, h1, h2, h3, h4, h5, h6⟩ := y
    exact ⟨T, T2, x, z, h1, h2, h3, h4, h5 xs q.1, h6 ys q.2⟩
end L2
namespace Tr
open PySem PySem.Spec PyProof.Rows L2
section
variable {X : Cx} {W : WX} {a b : Expr} {p pos p' pos' : Pos} {g : St → Out (List O)}
def ez2 : List O → Option (List PyData)
  | [.d (.list ds), .d (.list es)] => some (enumD (zip2D ds es))
  | _ => none
theorem si_enumZip {elts : List Expr} {kk : Nat} {tpos : Pos} (hm : X.mg "enumerate" = none) (hm2 : X.mg "zip" = none) (h : SA X W [a, b] g) (hg : Gl X "enumerate" := by rfl) (hg2 : Gl X "zip" := by rfl) (hs : starEach [a, b] X.env = (false, eval a X.env) :: starEach [b] X.env := by rfl) (hpl : (backTo pos' (starEach [b] X.env)).any (·.1) = false := by rfl)
    (ho : starEach [.Call (.Name "zip" p') [a, b] [] pos'] X.env = [(false, eval (.Call (.Name "zip" p') [a, b] [] pos') X.env)] := by rfl) : SI X W (.Tuple elts kk tpos) (.Call (.Name "enumerate" p) [.Call (.Name "zip" p') [a, b] [] pos'] [] pos) (iArgs ez2 g) := by
  refine ⟨PI.imp (pi_enumZip hg hm hg2 hm2 h.pa hs hpl ho) fun σ H R ⟨st, F, μ, rep, q⟩ => args_core (tg := .Tuple elts kk tpos) rep q fun vs os ds H1 μ1 r e k => ?_⟩
  unfold ez2 at e
  split at e
  · rename_i as bs
    cases e
    cases r with
    | cons r1 r2 => cases r2 with
      | cons r2 r3 =>
        cases r3
        have q1 := r1.rp
        have q2 := r2.rp
        cases q1 with
        | @lst p1 xs _ a1 b1 => cases q2 with
          | @lst p2 ys _ a2 b2 =>
            have hl : (enumD (zip2D as bs)).length = min xs.length ys.length := by unfold enumD zip2D; rw [List.length_map, List.length_zipIdx, List.length_map, List.length_zip, b1.length, b2.length]
            refine ⟨p1, p2, xs, ys, rfl, a1.sq, a2.sq, k _ ⟨fun H => SqL X.K H p1 xs ∧ SqL X.K H p2 ys, _, by rw [hl]; exact walk_enumZip rfl, fun H' kp => ⟨(a1.kp kp).sq, (a2.kp kp).sq⟩, fun i H2 v H3 hi kp y => ?_⟩⟩
            obtain ⟨T, T2, x1, x2, rfl, nT2, nT, rfl, e1, e2⟩ := y
            obtain ⟨d1, g1, g2⟩ := b1.getV e1
            obtain ⟨d2, g3, g4⟩ := b2.getV e2
            have gr1 : ∀ p u, H2 p = some u → (upd H2 T2 (.tup [x1, x2])) p = some u := fun p u z => by rw [upd_ne (ne_of_none z nT2)]; exact z
            have gr2 : ∀ p u, (upd H2 T2 (.tup [x1, x2])) p = some u → (upd (upd H2 T2 (.tup [x1, x2])) T (.tup [.int (i : Nat), .ref T2])) p = some u := fun p u z => by rw [upd_ne (ne_of_none z nT)]; exact z
            have kg1 : Kp H2 (upd H2 T2 (.tup [x1, x2])) := ⟨fun a xs q => gr1 a _ q, fun a o u q => gr1 a _ q⟩
            have kg2 : Kp (upd H2 T2 (.tup [x1, x2])) (upd (upd H2 T2 (.tup [x1, x2])) T (.tup [.int (i : Nat), .ref T2])) := ⟨fun a xs q => gr2 a _ q, fun a o u q => gr2 a _ q⟩
            have inner : Rp X.K (upd H2 T2 (.tup [x1, x2])) (.ref T2) (.tuple [d1, d2]) := .tup (.inl upd_same) (.cons ((g2.kp kp d1).kp kg1 d1) (.cons ((g4.kp kp d2).kp kg1 d2) .nil))
            refine ⟨fun p u z => gr2 p u (gr1 p u z), .tuple [.int i, .tuple [d1, d2]], ?_, .tup (.inl upd_same) (.cons (.int _) (.cons (inner.kp kg2 _) .nil))⟩
            unfold enumD zip2D
            have : (as.zip bs)[i]? = some (d1, d2) := List.getElem?_zip_eq_some.mpr ⟨g1, g3⟩
            rw [List.getElem?_map, List.getElem?_zipIdx, List.getElem?_map, this]
            simp
  · cases e
end
end Tr
namespace Tr
open PySem PySem.Spec PyProof.Rows L2
/-! ### a real tuple of one's own, taken apart at once -/
inductive OwnL (K : PySem.W.Frag) (μ : Mu) (H : Hp) : FP → List V → List O → Prop
  | nil : OwnL K μ H (fun _ => False) [] []
  | cons {F1 F2 : FP} {v : V} {vs : List V} {o : O} {os : List O} : Own K μ H F1 v o → OwnL K μ H F2 vs os → (∀ a, F1 a → F2 a → False) → OwnL K μ H (fun a => F1 a ∨ F2 a) (v :: vs) (o :: os)
theorem OwnL.step {K : PySem.W.Frag} {μ μ' : Mu} {H H' : Hp} {F : FP} {vs : List V} {os : List O} (h : OwnL K μ H F vs os) (m : μ <+: μ') (e : ∀ a, F a → H' a = H a) (k : Kp H H') : OwnL K μ' H' F vs os := by
  induction h with
  | nil => exact .nil
  | cons a b d ih => exact .cons (a.step m (fun x z => e x (.inl z)) k) (ih fun x z => e x (.inr z)) d
theorem OwnL.length {K : PySem.W.Frag} {μ : Mu} {H : Hp} {F : FP} {vs : List V} {os : List O} (h : OwnL K μ H F vs os) : vs.length = os.length := by
  induction h with
  | nil => rfl
  | cons _ _ _ ih => simp [ih]
def tAO (K : PySem.W.Frag) (W : WX) (f : St → Out (List O)) : TA := fun σ H Q => ∃ st F μ, Rep K σ μ H F st ∧ Aft K W σ (fun μ H Fv (vs : List V) os => OwnL K μ H Fv vs os) (f st) μ H F Q
structure SAO (X : Cx) (W : WX) (es : List Expr) (f : St → Out (List O)) : Prop where
  pa : PA X es (tAO X.K W f)
@[simp] def oNil : St → Out (List O) := fun st => .ok [] st
@[simp] def oCons (f : XE) (g : St → Out (List O)) : St → Out (List O) := fun st => bindO (f st) fun o st => bindO (g st) fun os st => .ok (o :: os) st
@[simp] def putsAt : List Nat → List O → St → Option St
  | [], [], st => some st
  | i :: is, o :: os, st => (putAt i o st).bind (putsAt is os)
  | _, _, _ => none
def gNs : List Nat → TGs
  | [] => gNil
  | i :: is => gCons (gName i) (gNs is)
@[simp] def sParN (is : List Nat) (g : St → Out (List O)) : XS := fun st => bindO (g st) fun os st => endO (putsAt is os st)
section
variable {X : Cx} {W : WX} {e : Expr} {es ts : List Expr} {f : XE} {g : St → Out (List O)} {pos : Pos}
theorem sao_nil : SAO X W [] oNil := by
  refine ⟨PA.imp pa_nil fun σ H Q ⟨st, F, μ, rep, q⟩ => ?_⟩
  exact q [] H μ (fun _ => False) F (List.prefix_refl _) .nil rep (fun _ z => z.elim) (fun _ z => z.elim) (Ext.refl fun a z => z.elim False.elim id)
theorem sao_cons (ha : SE X W e f) (hr : SAO X W es g) (hs : starEach (e :: es) X.env = (false, eval e X.env) :: starEach es X.env := by rfl) : SAO X W (e :: es) (oCons f g) := by
  refine ⟨PA.imp (pa_cons ha.pe hr.pa hs) fun σ H Q ⟨st, F, μ, rep, q⟩ => ?_⟩
  refine ⟨st, F, μ, rep, Aft.bind (Fv := fun _ => False) q (List.prefix_refl _) (Ext.refl fun a z => z.elim False.elim id) fun o1 st1 v1 H1 μ1 Fv1 F1 e1 m1 r1 rep1 d1 l1 x1 q1 => ?_⟩
  refine ⟨st1, F1, μ1, rep1, Aft.bind (Fv := Fv1) q1 m1 x1 fun os st2 vs H2 μ2 Fv2 F2 e2 m2 r2 rep2 d2 l2 x2 q2 => ?_⟩
  have k1 := keepF x2 d1 l1
  have r1' := r1.step m2 k1 x2.kp
  have X2 : Ext H F H2 (fun a => (Fv1 a ∨ Fv2 a) ∨ F2 a) := x1.trans ((x2.frame (G := Fv1)).imp fun a z => by
    rcases z with (z | z) | z
    · exact .inl z
    · exact .inr (.inl z)
    · exact .inr (.inr z))
  have dj1 : ∀ a, Fv1 a → (Fv2 a ∨ F2 a) → False := fun a z w => by
    rcases x2.new a w with q | q
    · exact l1 a z q
    · exact d1 a z q
  have l1' : ∀ a, Fv1 a → H2 a ≠ none := fun a z => by rw [k1 a z]; exact l1 a z
  exact q2 (v1 :: vs) H2 μ2 (fun a => Fv1 a ∨ Fv2 a) F2 (m1.trans m2) (.cons r1' r2 fun a z w => dj1 a z (.inl w)) rep2 (fun a z w => z.elim (fun q => dj1 a q (.inr w)) fun q => d2 a q w) (fun a z => z.elim (l1' a) (l2 a)) X2
theorem puts_ok {K : PySem.W.Frag} {μ : Mu} {H : Hp} {Q : L2.St → Hp → Prop} {st' : St} : ∀ (is : List Nat) (os : List O) (vs : List V) (st : St) (σ : L2.St) (Fv F : FP), OwnL K μ H Fv vs os → Rep K σ μ H F st → (∀ a, Fv a → F a → False) → (∀ a, Fv a → H a ≠ none) → putsAt is os st = some st' →
    (∀ σ' F', Rep K σ' μ H F' st' → (∀ a, F' a → Fv a ∨ F a) → Q σ' H) → gNs is vs σ H Q
  | [], os, vs, st, σ, Fv, F, ow, rep, dj, lv, e, q => by
    cases ow with
    | nil => cases e; exact ⟨rfl, q σ F rep fun _ z => .inr z⟩
    | cons a b d => cases e
  | i :: is, os, vs, st, σ, Fv, F, ow, rep, dj, lv, e, q => by
    cases ow with
    | nil => cases e
    | @cons F1 F2 v vs o os a b d =>
      have e : (putAt i o st).bind (putsAt is os) = some st' := e
      obtain ⟨st1, p1, p2⟩ := Option.bind_eq_some_iff.mp e
      obtain ⟨b1, rfl⟩ := putAt_some p1
      have ra := rep.put b1 a (fun x z w => dj x (.inl z) w) (fun x z => lv x (.inl z)) (fun _ _ => rfl) (Kp.refl H)
      refine ⟨v, vs, rfl, ?_⟩
      exact puts_ok is os vs _ _ F2 _ b ra (fun x z w => w.elim (fun w => d x w z) fun w => dj x (.inr z) w) (fun x z => lv x (.inr z)) p2 fun σ' F' r hF => q σ' F' r fun x z => (hF x z).elim (fun z => .inl (.inr z)) fun z => z.elim (fun z => .inl (.inl z)) .inr
theorem putsAt_len : ∀ {is : List Nat} {os : List O} {st st' : St}, putsAt is os st = some st' → os.length = is.length
  | [], [], _, _, _ => rfl
  | [], _ :: _, _, _, e => nomatch e
  | _ :: _, [], _, _, e => nomatch e
  | i :: is, o :: os, st, st', e => by
    have e : (putAt i o st).bind (putsAt is os) = some st' := e
    obtain ⟨st1, _, p2⟩ := Option.bind_eq_some_iff.mp e
    simp [putsAt_len p2]
theorem ss_parN (is : List Nat) {kt k2 pt pt2} (hc : X.calm = true) (hg : PGs X ts (gNs is)) (ha : SAO X W es g) (hl8 : is.length ≤ 8 := by decide)
    (hn : (assignEach ts X.env).length = is.length := by rfl) (hst : (assignEach ts X.env).findIdx? (·.1) = none := by rfl)
    (hw : swappedStores [.Tuple ts kt pt] (.Tuple es k2 pt2) X.env = pure none := by rfl)
    (hs : swapsWithSole [.Tuple ts kt pt] (.Tuple es k2 pt2) pos.line X.env = pure false := by rfl) :
    SS X W (.Assign [.Tuple ts kt pt] (.Tuple es k2 pt2) pos) (sParN is g) := by
  refine ⟨PS.imp (ps_asg (pe_tup ha.pa) (pg_tup hc hg hn hst) hs hw) fun D σ H ⟨st, F, μ, rep, q⟩ => ?_⟩
  refine ⟨st, F, μ, rep, AftS.bind q fun os st1 vs H1 μ1 Fv1 F1 e1 m1 r1 rep1 d1 l1 x1 q1 => ?_⟩
  cases ep : putsAt is os st1 with
  | none => rw [ep] at q1; exact q1.elim
  | some st2 =>
    rw [ep] at q1
    have hl := putsAt_len ep
    refine ⟨by rw [r1.length, hl, sizeLine_eq]; exact Nat.le_trans hl8 (by decide), fun p np => ?_⟩
    have g0 : ∀ b u, H1 b = some u → (upd H1 p (.tup vs)) b = some u := fun b u q => by rw [upd_ne (ne_of_none q np)]; exact q
    have live : ∀ b, H1 b ≠ none → (upd H1 p (.tup vs)) b = H1 b := fun b q => upd_ne fun w => q (w ▸ np)
    have kp : Kp H1 (upd H1 p (.tup vs)) := ⟨fun x xs q => g0 x _ q, fun x o u q => g0 x _ q⟩
    refine ⟨p, vs, rfl, .inl (Rd.of upd_same), by rw [r1.length, hl], ?_⟩
    refine puts_ok is os vs st1 _ Fv1 F1 (r1.step (List.prefix_refl _) (fun a z => live a (l1 a z)) kp) (rep1.grow g0) d1 (fun a z => by rw [live a (l1 a z)]; exact l1 a z) ep fun σ' F' r hF => ?_
    exact q1 σ' _ μ1 F' m1 r (x1.grow g0 fun a z => .inl (hF a z))
end
end Tr
namespace Tr
open PySem PySem.Spec PyProof.Rows L2
/-! ### things of the store: instances -/
section
variable {K : PySem.W.Frag} {σ : L2.St} {μ μ' : Mu} {H H' : Hp} {F F' G : FP} {st : St}
/-- a thing comes into the store -/
theorem Rep.pushC (h : Rep K σ μ H F st) {p : Addr} {c : Cell} (ow : OwnC K (μ ++ [p]) H G p c) (nF : ∀ a, G a → ¬ F a) (lv : ∀ a, G a → H a ≠ none) :
    Rep K σ (μ ++ [p]) H (fun a => F a ∨ G a) { st with g := st.g ++ [c] } := by
  obtain ⟨S, R, h1, h2, h3, h4, h5, h6, h7⟩ := h.ex
  have hm := h.mu
  refine ⟨⟨S, fun k => if k = st.g.length then G else R k, fun j o e => ?_, fun k c' e => ?_, h3, fun k l a z w => ?_, fun i k a z w => ?_, fun i a z => .inl (h6 i a z), fun k a z => ?_⟩, fun a z => z.elim (h.live a) (lv a), ?_, h.len⟩
  · obtain ⟨w, r1, r2⟩ := h1 j o e
    exact ⟨w, r1, r2.step (List.prefix_append ..) (fun _ _ => rfl) (Kp.refl H)⟩
  · have e : (st.g ++ [c])[k]? = some c' := e
    by_cases hk : k = st.g.length
    · subst hk
      rw [List.getElem?_append_right (Nat.le_refl _)] at e
      simp at e
      subst e
      refine ⟨p, by rw [← hm, List.getElem?_append_right (Nat.le_refl _)]; simp, ?_⟩
      simp only [if_true]
      exact ow
    · have lt : k < st.g.length := by
        have := (List.getElem?_eq_some_iff.mp e).1
        rw [List.length_append] at this
        simp at this
        omega
      rw [List.getElem?_append_left lt] at e
      obtain ⟨w, r1, r2⟩ := h2 k c' e
      refine ⟨w, by rw [List.getElem?_append_left (by rw [hm]; exact lt)]; exact r1, ?_⟩
      simp only [if_neg hk]
      exact r2.step (List.prefix_append ..) (fun _ _ => rfl) (Kp.refl H)
  · dsimp only at z w
    split at z <;> split at w
    · omega
    · exact (nF a z (h7 l a w)).elim
    · exact (nF a w (h7 k a z)).elim
    · exact h4 k l a z w
  · dsimp only at w
    split at w
    · exact nF a w (h6 i a z)
    · exact h5 i k a z w
  · dsimp only at z
    split at z
    · exact .inr z
    · exact .inl (h7 k a z)
  · show (μ ++ [p]).length = (st.g ++ [c]).length
    rw [List.length_append, List.length_append, hm] <;> rfl
/-- a thing of the store changes -/
theorem Rep.chgC (h : Rep K σ μ H F st) {k : Nat} {c : Cell} (e : st.g[k]? = some c) : ∃ (a : Addr) (G : FP), μ[k]? = some a ∧ OwnC K μ H G a c ∧ (∀ b, G b → F b) ∧
    ∀ (H' : Hp) (c' : Cell), (∀ b, ¬ G b → H' b = H b) → Kp H H' → (∀ b, G b → H' b ≠ none) → OwnC K μ H' G a c' → Rep K σ μ H' F { st with g := st.g.set k c' } ∧ Ext H F H' F := by
  obtain ⟨S, R, h1, h2, h3, h4, h5, h6, h7⟩ := h.ex
  obtain ⟨a, q1, q2⟩ := h2 k c e
  refine ⟨a, R k, q1, q2, h7 k, fun H' c' ou kp lv ow => ⟨⟨⟨S, R, fun j o' e' => ?_, fun k' c2 e' => ?_, h3, h4, h5, h6, h7⟩, fun b z => ?_, ?_, h.len⟩, ⟨fun b u q n => ?_, kp, fun b z => .inr z⟩⟩⟩
  · obtain ⟨w, r1, r2⟩ := h1 j o' e'
    exact ⟨w, r1, r2.step (List.prefix_refl _) (fun b z => ou b fun w' => h5 j k b z w') kp⟩
  · have e' : (st.g.set k c')[k']? = some c2 := e'
    by_cases hk : k = k'
    · subst hk
      rw [List.getElem?_set_self (List.getElem?_eq_some_iff.mp e).1] at e'
      cases e'
      exact ⟨a, q1, ow⟩
    · rw [List.getElem?_set_ne hk] at e'
      obtain ⟨w, r1, r2⟩ := h2 k' c2 e'
      exact ⟨w, r1, r2.step (List.prefix_refl _) (fun b z => ou b fun w' => hk (h4 k k' b w' z)) kp⟩
  · by_cases nb : R k b
    · exact lv b nb
    · rw [ou b nb]; exact h.live b z
  · show μ.length = (st.g.set k c').length
    rw [List.length_set]; exact h.mu
  · rw [ou b fun w' => n (h7 k b w')]; exact q
/-- a thing of the store, looked at -/
def viewO (g : List Cell) : O → O
  | .obj k => match g[k]? with
    | some (.lst os) => match dats os with
      | some ds => .lst ds
      | none => .obj k
    | some (.dct es) => .dct es
    | _ => .obj k
  | o => o
theorem Rep.view (h : Rep K σ μ H F st) {v : V} {o : O} (ow : Own K μ H G v o) : ∃ G', Own K μ H G' v (viewO st.g o) := by
  unfold viewO
  split
  · rename_i k
    cases ow with
    | obj em =>
      split
      · rename_i os eg
        split
        · rename_i ds ed
          obtain ⟨a', em', oc⟩ := h.cell eg
          rw [em] at em'; cases em'
          cases oc with
          | lst c1 c2 c3 => exact ⟨F, .lst c1 (dats_ok c2 ed) c3⟩
        · exact ⟨G, .obj em⟩
      · rename_i es eg
        obtain ⟨a', em', oc⟩ := h.cell eg
        rw [em] at em'; cases em'
        cases oc with
        | dct c1 c2 c3 c4 => exact ⟨F, .dct c1 c2 c3 c4⟩
      · exact ⟨G, .obj em⟩
  · exact ⟨G, ow⟩
end
/-! ### operators, looking -/
def xOpG (h : O → O → Option O) (fa fb : XE) : XE := fun st => bindO (fa st) fun a st1 => bindO (fb st1) fun b st2 => ret2 h (viewO st2.g a) (viewO st2.g b) st2
def xLenV (h : O → Option PyData) (fa : XE) : XE := fun st => bindO (fa st) fun a st => match h (viewO st.g a) with
  | some d => .ok (.d d) st
  | none => .no
def xListV (fa : XE) : XE := fun st => bindO (fa st) fun a st => match listO (viewO st.g a) with
  | some ds => .ok (.lst ds) st
  | none => .no
section
variable {X : Cx} {W : WX} {a b c e : Expr} {es : List Expr} {fa fb fc f : XE} {pos p : Pos} {r : R2} {h : O → O → Option O} {σ : L2.St} {H : Hp} {Q : V → Hp → Prop} {st : St} {F : FP} {μ : Mu}
theorem opG_core (v2 : V2 X.K r h) (rep : Rep X.K σ μ H F st) (q : Aft X.K W σ (fun μ H Fv (v : V) o => Own X.K μ H Fv v o) (xOpG h fa fb st) μ H F Q) : tE X.K W fa σ H fun x H1 => tE X.K W fb σ H1 fun y H2 => r x y H2 Q := by
  refine ⟨st, F, μ, rep, Aft.bind (Fv := fun _ => False) q (List.prefix_refl _) (Ext.refl fun a z => z.elim False.elim id) fun o1 st1 v1 H1 μ1 Fv1 F1 e1 m1 r1 rep1 d1 l1 x1 q1 => ?_⟩
  refine ⟨st1, F1, μ1, rep1, Aft.bind (Fv := Fv1) q1 m1 x1 fun o2 st2 v2' H2 μ2 Fv2 F2 e2 m2 r2 rep2 d2 l2 x2 q2 => ?_⟩
  have s1 := keepF x2 d1 l1
  have r1' := r1.step m2 s1 x2.kp
  obtain ⟨G1, w1⟩ := rep2.view r1'
  obtain ⟨G2, w2⟩ := rep2.view r2
  unfold ret2 at q2
  split at q2
  · rename_i o eo
    exact v2.ok μ2 H2 G1 G2 v1 v2' _ _ o Q w1 w2 eo (Aft.fin (G := fun a => Fv1 a ∨ Fv2 a) q2 (m1.trans m2) rep2 (x1.trans ((x2.frame (G := Fv1)).imp fun a z => by rcases z with (z | z) | z; exact .inl z; exact .inr (.inl z); exact .inr (.inr z))))
  · exact q2.elim
theorem se_cmpG {op : CmpOp} (cr : CR X op h) (ha : SE X W a fa) (hb : SE X W b fb) (hm : behindInMarks op b = false := by rfl) : SE X W (.Compare a [op] [b] pos) (xOpG h fa fb) :=
  let ⟨_, ho, v2⟩ := cr.ex
  ⟨PE.imp (pe_cmpR ho ha.pe hb.pe hm) fun σ H Q ⟨st, F, μ, rep, q⟩ => opG_core v2 rep q⟩
theorem st_cmpG {op : CmpOp} (cr : CR X op h) (ha : SE X W a fa) (hb : SE X W b fb) (hm : behindInMarks op b = false := by rfl) : ST X W (.Compare a [op] [b] pos) (tVal (xOpG h fa fb)) :=
  let ⟨_, ho, v2⟩ := cr.ex
  ⟨PT.imp (pt_cmpR ho ha.pe hb.pe hm) fun σ H Q ⟨st, F, μ, rep, q⟩ => by
    obtain ⟨st', F', μ', rep', q'⟩ := test_core (f := xOpG h fa fb) rep q
    exact opG_core v2 rep' q'⟩
theorem se_ixV (hu : X.A.units + 65 < cLine) (ha : SE X W a fa) (hb : SE X W b fb) (hs : PlainIx b := by exact fun _ _ => rfl) : SE X W (.Subscript a b pos) (xOpG oIxX fa fb) :=
  ⟨PE.imp (pe_ix (ix_3 hu) ha.pe hb.pe hs) fun σ H Q ⟨st, F, μ, rep, q⟩ => opG_core v2_ix3 rep q⟩
variable {x : Str} {idn : String} {rc : List V → Hp → VK → Prop}
theorem se_callV {hc' : O → Option PyData} (hc : CallR X (.builtin idn) rc) (vc : VCw X.K rc hc') (hm : X.mg x = none) (hv : bootBuiltins x = some (.builtin idn)) (ha : SE X W a fa) (hg : Gl X x := by rfl) (hn : x ≠ "__name__" := by decide) (hdb : (x == ("__debug__" : Str)) = false := by decide)
    (he : starEach [a] X.env = (false, eval a X.env) :: starEach [] X.env := by rfl) (hpl : (backTo pos (starEach [] X.env)).any (·.1) = false := by rfl) : SE X W (.Call (.Name x p) [a] [] pos) (xLenV hc' fa) :=
  ⟨PE.imp (pe_callB hc hg hm hv (pa_cons ha.pe pa_nil he) hn hdb he hpl) fun σ H Q ⟨st, F, μ, rep, q⟩ => by
    refine ⟨st, F, μ, rep, Aft.bind (Fv := fun _ => False) q (List.prefix_refl _) (Ext.refl fun a z => z.elim False.elim id) fun o1 st1 v1 H1 μ1 Fv1 F1 e1 m1 r1 rep1 d1 l1 x1 q1 => ?_⟩
    obtain ⟨G1, w1⟩ := rep1.view r1
    split at q1
    · rename_i d ed
      exact vc.ok μ1 H1 G1 v1 _ d Q w1 ed fun v' rp => (Aft.fin (G := Fv1) q1 m1 rep1 x1).datum rp
    · exact q1.elim⟩
theorem se_listV (hm : X.mg "list" = none) (ha : SE X W a fa) (hg : Gl X "list" := by rfl)
    (he : starEach [a] X.env = (false, eval a X.env) :: starEach [] X.env := by rfl) (hpl : (backTo pos (starEach [] X.env)).any (·.1) = false := by rfl) : SE X W (.Call (.Name "list" p) [a] [] pos) (xListV fa) :=
  ⟨PE.imp (pe_callTy call_list_of hg hm (by decide +kernel) (pa_cons ha.pe pa_nil he) (by decide) (by decide) he hpl) fun σ H Q ⟨st, F, μ, rep, q⟩ => by
    refine ⟨st, F, μ, rep, Aft.bind (Fv := fun _ => False) q (List.prefix_refl _) (Ext.refl fun a z => z.elim False.elim id) fun o1 st1 v1 H1 μ1 Fv1 F1 e1 m1 r1 rep1 d1 l1 x1 q1 => ?_⟩
    obtain ⟨G1, w1⟩ := rep1.view r1
    split at q1
    · rename_i ds ed
      obtain ⟨a', xs, rfl, hr, rl⟩ := w1.list ed
      exact ⟨a', xs, rfl, .inl (Rd.sq hr), (Aft.fin (G := Fv1) q1 m1 rep1 x1).list rl⟩
    · exact q1.elim⟩
end
/-! ### fields -/
def fldG (c : Str) (g : List Cell) (a : O) (f : Str) : Option O := match a with
  | .obj k => match g[k]? with
    | some (.ins c' fs) => if c' = c then fs.lookup f else none
    | _ => none
  | _ => none
def xFld (c : Str) (fa : XE) (f : Str) : XE := fun st => bindO (fa st) fun a st => retO (fldG c st.g a f) st
def putO (f : Str) (o : O) : List (Str × O) → List (Str × O)
  | [] => [(f, o)]
  | (g, x) :: r => if g = f then (g, o) :: r else (g, x) :: putO f o r
theorem lookup_pair {P : Str × V → Str × O → Prop} (hP : ∀ v f, P v f → v.1 = f.1) {vs : List (Str × V)} {fs : List (Str × O)} (h : Paired P vs fs) (f : Str) : (fs.lookup f = none ∧ vs.lookup f = none) ∨ ∃ o v n, fs.lookup f = some o ∧ vs.lookup f = some v ∧ P (n, v) (n, o) := by
  induction h with
  | nil => exact .inl ⟨rfl, rfl⟩
  | @cons a b as bs hab _ ih =>
    obtain ⟨n, v⟩ := a
    obtain ⟨m, o⟩ := b
    have e : n = m := hP _ _ hab
    subst e
    rw [List.lookup_cons, List.lookup_cons]
    cases q : f == n with
    | true => exact .inr ⟨o, v, n, rfl, rfl, hab⟩
    | false => exact ih
theorem put_pair {P : Str × V → Str × O → Prop} (hP : ∀ v f, P v f → v.1 = f.1) {vs : List (Str × V)} {fs : List (Str × O)} (h : Paired P vs fs) (f : Str) {v : V} {o : O} (hv : P (f, v) (f, o)) : Paired P (putF f v vs) (putO f o fs) := by
  induction h with
  | nil => exact .cons hv .nil
  | @cons a b as bs hab ht ih =>
    obtain ⟨n, v'⟩ := a
    obtain ⟨m, o'⟩ := b
    have e : n = m := hP _ _ hab
    subst e
    unfold putF putO
    by_cases q : n = f
    · subst q
      rw [if_pos rfl, if_pos rfl]
      exact .cons hv ht
    · rw [if_neg q, if_neg q]
      exact .cons hab ih
/-- what comes into a field: data and things as they are, lists and dicts of one's own as things -/
def setFG (c : Str) (a : O) (f : Str) (o : O) (st : St) : Option St := match a with
  | .obj k => match st.g[k]? with
    | some (.ins c' fs) => if c' = c ∧ fs.length < 100 then (match o with
      | .d x => some { st with g := st.g.set k (.ins c (putO f (.d x) fs)) }
      | .obj j => some { st with g := st.g.set k (.ins c (putO f (.obj j) fs)) }
      | .lst ds => some { st with g := (st.g ++ [Cell.lst (ds.map .d)]).set k (.ins c (putO f (.obj st.g.length) fs)) }
      | .dct es => some { st with g := (st.g ++ [Cell.dct es]).set k (.ins c (putO f (.obj st.g.length) fs)) }
      | _ => none) else none
    | _ => none
  | _ => none
def sSetF (c : Str) (fa : XE) (f : Str) (fv : XE) : XS := fun st => bindO (fv st) fun o st => bindO (fa st) fun a st => endO (setFG c a f o st)
section
variable {X : Cx} {W : WX} {a b e value : Expr} {es : List Expr} {fa fb f : XE} {pos p pos' : Pos} {σ : L2.St} {H : Hp} {st : St} {F : FP} {μ : Mu} {c fd : Str}
theorem se_fld (cl : Cls X.K (He.ga X.K c)) (na : NoAttr X.K (He.ga X.K c) fd) (ha : SE X W a fa) (hb : attributeBase a fd X.env (eval a X.env) = eval a X.env := by rfl) : SE X W (.Attribute a fd pos) (xFld c fa fd) := by
  refine ⟨PE.imp (pe_fld ha.pe hb) fun σ H Q ⟨st, F, μ, rep, q⟩ => ?_⟩
  refine ⟨st, F, μ, rep, Aft.bind (Fv := fun _ => False) q (List.prefix_refl _) (Ext.refl fun a z => z.elim False.elim id) fun o1 st1 v1 H1 μ1 Fv1 F1 e1 m1 r1 rep1 d1 l1 x1 q1 => ?_⟩
  unfold fldG at q1
  split at q1
  · rename_i k
    split at q1
    · rename_i c' fs eg
      split at q1
      · rename_i ec
        subst ec
        cases r1 with
        | obj em =>
          obtain ⟨a', em', oc⟩ := rep1.cell eg
          rw [em] at em'; cases em'
          cases oc with
          | ins c1 c2 c3 c4 c5 =>
            rcases lookup_pair (fun v f z => z.1) c3 fd with ⟨n1, n2⟩ | ⟨o, v, n, n1, n2, _, n3⟩
            · rw [n1] at q1; exact q1.elim
            · rw [n1] at q1
              exact ⟨_, _, _, _, v, rfl, c1, cl, na, n2, (Aft.fin (G := Fv1) q1 m1 rep1 x1) v H1 (fun _ => False) (fun _ _ q => q) n3 fun _ z => z.elim⟩
      · exact q1.elim
    · exact q1.elim
  · exact q1.elim
/-- the instance's field, changed -/
theorem Rep.setF {K : PySem.W.Frag} (h : Rep K σ μ H F st) {k : Nat} {c : Str} {fs : List (Str × O)} (e : st.g[k]? = some (.ins c fs)) (f : Str) {v : V} {o : O} (ow : Own K μ H (fun _ => False) v o) : ∃ a dx vs, μ[k]? = some a ∧ H a = some (.ins (He.ga K c) dx vs) ∧ vs.length = fs.length ∧
    Rep K σ μ (upd H a (.ins (He.ga K c) dx (putF f v vs))) F { st with g := st.g.set k (.ins c (putO f o fs)) } ∧ Ext H F (upd H a (.ins (He.ga K c) dx (putF f v vs))) F := by
  obtain ⟨a, G, em, oc, gf, back⟩ := h.chgC e
  cases oc with
  | ins c1 c2 c3 c4 c5 =>
    rename_i dx vs
    refine ⟨a, dx, vs, em, c1, c3.length, ?_⟩
    have ne : dx ≠ a := fun z => by rw [z, c1] at c2; cases c2
    have kp : Kp H (upd H a (.ins (He.ga K c) dx (putF f v vs))) := ⟨fun b ys q => by rw [upd_ne (ne_of q c1 (by intro z; cases z))]; exact q, fun b o' u' q => by rw [upd_ne (ne_of q c1 (by intro z; cases z))]; exact q⟩
    refine back _ _ (fun b hb => upd_ne fun z => hb (z ▸ c4)) kp (fun b hb => ?_) (.ins upd_same (by rw [upd_ne ne]; exact c2) ?_ c4 c5)
    · by_cases z : b = a
      · subst z; rw [upd_same]; simp
      · rw [upd_ne z]; exact h.live b (gf b hb)
    · refine put_pair (fun v f z => z.1) (L2.Paired.mapP c3 fun v f z => ⟨z.1, z.2.step (List.prefix_refl _) (fun _ z => z.elim) kp⟩) f ⟨rfl, ow.step (List.prefix_refl _) (fun _ z => z.elim) kp⟩
theorem ss_setF (cl : Cls X.K (He.ga X.K c)) (na : NoAttr X.K (He.ga X.K c) fd) (ha : SE X W a fa) (hv : SE X W value f) (hs : swapsWith value (some (.Attribute a fd pos')) pos.line X.env = pure false := by rfl) : SS X W (.Assign [.Attribute a fd pos'] value pos) (sSetF c fa fd f) := by
  refine ⟨PS.imp (ps_fld ha.pe hv.pe hs) fun D σ H ⟨st, F, μ, rep, q⟩ => ?_⟩
  refine ⟨st, F, μ, rep, AftS.bind q fun o1 st1 v1 H1 μ1 Fv1 F1 e1 m1 r1 rep1 d1 l1 x1 q1 => ?_⟩
  refine ⟨st1, F1, μ1, rep1, AftS.bind2 (Fv := Fv1) q1 m1 x1 fun o2 st2 v2 H2 μ2 Fv2 F2 e2 m2 r2 rep2 d2 l2 x2 q2 => ?_⟩
  have k1 := keepF x2 d1 l1
  have r1' := r1.step m2 k1 x2.kp
  have dj1 : ∀ a, Fv1 a → (Fv2 a ∨ F2 a) → False := fun a z w => by
    rcases x2.new a w with q | q
    · exact l1 a z q
    · exact d1 a z q
  have l1' : ∀ a, Fv1 a → H2 a ≠ none := fun a z => by rw [k1 a z]; exact l1 a z
  have X2 : Ext H F H2 (fun a => Fv1 a ∨ F2 a) := x1.trans ((x2.frame (G := Fv1)).imp fun a z => z.elim .inl fun z => .inr (.inr z))
  cases es : setFG c o2 fd o1 st2 with
  | none => rw [es] at q2; exact q2.elim
  | some st3 =>
    rw [es] at q2
    unfold setFG at es
    split at es
    · rename_i k
      split at es
      · rename_i c' fs eg
        split at es
        · rename_i ec
          obtain ⟨rfl, hl⟩ := ec
          cases r2 with
          | obj em =>
            split at es
            · rename_i x
              cases es
              cases r1' with
              | d rx =>
                obtain ⟨a', dx, vs, em', ha', hl', rp, ex⟩ := rep2.setF eg fd (.d rx)
                rw [em] at em'; cases em'
                exact ⟨_, _, dx, vs, rfl, ha', cl, na, by omega, q2 σ _ μ2 F2 (m1.trans m2) rp ((X2.imp fun a z => .inr z : Ext H F H2 F2).trans ex)⟩
            · rename_i j
              cases es
              cases r1' with
              | obj rx =>
                obtain ⟨a', dx, vs, em', ha', hl', rp, ex⟩ := rep2.setF eg fd (.obj rx)
                rw [em] at em'; cases em'
                exact ⟨_, _, dx, vs, rfl, ha', cl, na, by omega, q2 σ _ μ2 F2 (m1.trans m2) rp ((X2.imp fun a z => .inr z : Ext H F H2 F2).trans ex)⟩
            · rename_i ds
              cases es
              cases r1' with
              | @lst b xs _ b1 b2 b3 =>
                have R1 := rep2.pushC (G := fun a => a = b) (c := .lst (ds.map .d)) (p := b) (.lst b1 (own_dats b2) rfl) (fun a z w => by subst z; exact dj1 _ b3 (.inr w)) (fun a z => by subst z; rw [b1]; simp)
                have hm := rep2.mu
                have kl : k < st2.g.length := (List.getElem?_eq_some_iff.mp eg).1
                have eg' : (st2.g ++ [Cell.lst (ds.map .d)])[k]? = some (.ins c' fs) := by rw [List.getElem?_append_left kl]; exact eg
                obtain ⟨a', dx, vs, em', ha', hl', rp, ex⟩ := R1.setF (o := .obj st2.g.length) (v := .ref b) eg' fd (.obj (by rw [← hm]; simp))
                rw [List.getElem?_append_left (by omega), em] at em'; cases em'
                refine ⟨_, _, dx, vs, rfl, ha', cl, na, by omega, q2 σ _ (μ2 ++ [b]) _ ((m1.trans m2).trans (List.prefix_append ..)) rp ?_⟩
                exact (X2.imp fun a z => z.elim .inr fun z => .inl (z ▸ b3) : Ext H F H2 (fun a => F2 a ∨ a = b)).trans ex
            · rename_i ds
              cases es
              cases r1' with
              | @dct b u xs _ b1 b2 b3 b4 =>
                have R1 := rep2.pushC (G := fun a => a = b) (c := .dct ds) (p := b) (.dct b1 b2 b3 rfl) (fun a z w => by subst z; exact dj1 _ b4 (.inr w)) (fun a z => by subst z; rw [b1]; simp)
                have hm := rep2.mu
                have kl : k < st2.g.length := (List.getElem?_eq_some_iff.mp eg).1
                have eg' : (st2.g ++ [Cell.dct ds])[k]? = some (.ins c' fs) := by rw [List.getElem?_append_left kl]; exact eg
                obtain ⟨a', dx, vs, em', ha', hl', rp, ex⟩ := R1.setF (o := .obj st2.g.length) (v := .ref b) eg' fd (.obj (by rw [← hm]; simp))
                rw [List.getElem?_append_left (by omega), em] at em'; cases em'
                refine ⟨_, _, dx, vs, rfl, ha', cl, na, by omega, q2 σ _ (μ2 ++ [b]) _ ((m1.trans m2).trans (List.prefix_append ..)) rp ?_⟩
                exact (X2.imp fun a z => z.elim .inr fun z => .inl (z ▸ b4) : Ext H F H2 (fun a => F2 a ∨ a = b)).trans ex
            · cases es
        · cases es
      · cases es
    · cases es
end
end Tr
namespace Tr
open PySem PySem.Spec PyProof.Rows L2
/-! ### things of the store that change -/
def isLG (g : List Cell) (a : O) : Bool := match a with
  | .obj k => match g[k]? with
    | some (.lst _) => true
    | _ => false
  | _ => false
def isDO : O → Bool
  | .d _ => true
  | .obj _ => true
  | _ => false
def appG (a : O) (os : List O) (st : St) : Option St := match a, os with
  | .obj k, [x] => match st.g[k]? with
    | some (.lst xs) => if small xs.length && isDO x then some { st with g := st.g.set k (.lst (xs ++ [x])) } else none
    | _ => none
  | _, _ => none
def sAppV (fa : XE) (g : St → Out (List O)) : XS := fun st => bindO (fa st) fun a st => if isLG st.g a then bindO (g st) fun os st => endO (appG a os st) else .no
def popG (a : O) (st : St) : Option (O × St) := match a with
  | .obj k => match st.g[k]? with
    | some (.lst xs) => match xs[xs.length - 1]? with
      | some o => some (o, { st with g := st.g.set k (.lst xs.dropLast) })
      | none => none
    | _ => none
  | _ => none
def xPopV (fa : XE) : XE := fun st => bindO (fa st) fun a st => match popG a st with
  | some (o, st) => .ok o st
  | none => .no
def setDG (o a i : O) (st : St) : Option St := match frz o, a, i with
  | .d y, .obj k, .d kd => match st.g[k]? with
    | some (.dct es) => if kOk es kd && small es.length then some { st with g := st.g.set k (.dct (dPut es kd y)) } else none
    | _ => none
  | _, _, _ => none
def sSetDV (fa f fi : XE) : XS := fun st => bindO (xFz f st) fun o st => bindO (fa st) fun a st => bindO (fi st) fun i st => endO (setDG o a i st)
theorem paired_get {α β : Type} {R : α → β → Prop} {vs : List α} {os : List β} (h : Paired R vs os) : ∀ {i : Nat} {o : β}, os[i]? = some o → ∃ v, vs[i]? = some v ∧ R v o := by
  induction h with
  | nil => intro i o e; simp at e
  | cons a b ih =>
    intro i o e
    cases i with
    | zero => simp at e; subst e; exact ⟨_, rfl, a⟩
    | succ i => simpa using ih (by simpa using e)
theorem paired_drop {α β : Type} {R : α → β → Prop} : ∀ {vs : List α} {os : List β}, Paired R vs os → Paired R vs.dropLast os.dropLast
  | _, _, .nil => .nil
  | _, _, .cons a .nil => .nil
  | _, _, .cons a (.cons b c) => .cons a (paired_drop (.cons b c))
theorem paired_snoc {α β : Type} {R : α → β → Prop} {vs : List α} {os : List β} {v : α} {o : β} (h : Paired R vs os) (r : R v o) : Paired R (vs ++ [v]) (os ++ [o]) := by
  induction h with
  | nil => exact .cons r .nil
  | cons a b ih => exact .cons a ih
theorem prefix_at {μ μ' : Mu} {k : Nat} {a : Addr} (m : μ <+: μ') (e : μ[k]? = some a) : μ'[k]? = some a := by
  obtain ⟨t, rfl⟩ := m
  rw [List.getElem?_append_left (List.getElem?_eq_some_iff.mp e).1]; exact e
theorem isLG_some {g : List Cell} {a : O} (h : isLG g a = true) : ∃ k xs, a = .obj k ∧ g[k]? = some (.lst xs) := by
  unfold isLG at h
  split at h
  · split at h
    · rename_i xs e; exact ⟨_, xs, rfl, e⟩
    · cases h
  · cases h
theorem appG_some {a : O} {os : List O} {st st' : St} (h : appG a os st = some st') : ∃ k x xs, a = .obj k ∧ os = [x] ∧ st.g[k]? = some (.lst xs) ∧ small xs.length = true ∧ isDO x = true ∧ st' = { st with g := st.g.set k (.lst (xs ++ [x])) } := by
  unfold appG at h
  split at h
  · split at h
    · split at h
      · rename_i c
        obtain ⟨c1, c2⟩ := Bool.and_eq_true_iff.mp c
        cases h
        exact ⟨_, _, _, rfl, rfl, by assumption, c1, c2, rfl⟩
      · cases h
    · cases h
  · cases h
section
variable {X : Cx} {W : WX} {a b e ie o : Expr} {es : List Expr} {fa fb f fi : XE} {pos p apos cpos pos' : Pos} {σ : L2.St} {H : Hp} {st : St} {F : FP} {μ : Mu}
/-- a list of the store, changed -/
theorem Rep.setLs {K : PySem.W.Frag} (h : Rep K σ μ H F st) {k : Nat} {os : List O} (e : st.g[k]? = some (.lst os)) : ∃ (l : Addr) (vs : List V), μ[k]? = some l ∧ H l = some (.lst vs) ∧ Paired (Own K μ H (fun _ => False)) vs os ∧
    ∀ (vs' : List V) (os' : List O), Paired (Own K μ H (fun _ => False)) vs' os' → Kp H (upd H l (.lst vs')) ∧ Rep K σ μ (upd H l (.lst vs')) F { st with g := st.g.set k (.lst os') } ∧ Ext H F (upd H l (.lst vs')) F := by
  obtain ⟨l, G, em, oc, gf, back⟩ := h.chgC e
  cases oc with
  | lst c1 c2 c3 =>
    refine ⟨l, _, em, c1, c2, fun vs' os' pr => ⟨Kp.put c1, ?_⟩⟩
    refine back _ _ (fun b hb => upd_ne fun z => hb (z ▸ c3)) (Kp.put c1) (fun b hb => ?_) (.lst upd_same (Own.steps pr (List.prefix_refl _) (Kp.put c1)) c3)
    by_cases z : b = l
    · subst z; rw [upd_same]; simp
    · rw [upd_ne z]; exact h.live b (gf b hb)
theorem ss_appV (ha : SE X W a fa) (h : SE X W e f) (hs : swapsWith (.Call (.Attribute a "append" apos) [e] [] p) none pos.line X.env = pure false := by rfl)
    (hbase : attributeBase a "append" X.env (eval a X.env) = eval a X.env := by rfl)
    (hfew : ((backTo p (starEach [e] X.env)).all (fun x => !x.1) && (backToKw p (keywordEach [] X.env)).all (fun x => x.1.isSome)
      && decide ([e].length + ([] : List Keyword).length + (if ([] : List Keyword).isEmpty then 0 else 1) < 30)) = true := by rfl)
    (hline : (apos.endLine == p.line) = true := by rfl) (hs1 : starEach [e] X.env = (false, eval e X.env) :: starEach [] X.env := by rfl) (hplain : (backTo p (starEach [] X.env)).any (·.1) = false := by rfl) :
    SS X W (.Expr (.Call (.Attribute a "append" apos) [e] [] p) pos) (sAppV fa (aCons f aNil)) := by
  refine ⟨PS.imp (ps_expr (pe_bm PySem.F.plainAttrs_list PySem.F.slot_list_append PySem.F.type_list_append mt_append ha.pe (sa_cons h sa_nil hs1).pa hbase hfew hline hs1 hplain) hs) fun D σ H ⟨st, F, μ, rep, q⟩ => ?_⟩
  refine ⟨st, F, μ, rep, AftS.bind q fun o1 st1 v1 H1 μ1 Fv1 F1 e1 m1 r1 rep1 d1 l1 x1 q1 => ?_⟩
  split at q1
  · rename_i hl
    obtain ⟨k, xs, rfl, eg⟩ := isLG_some hl
    cases r1 with
    | obj em =>
      obtain ⟨l, vs, em', hl1, _, _⟩ := rep1.setLs eg
      rw [em] at em'; cases em'
      refine ⟨.inl ⟨rfl, vs, SqL.of hl1⟩, st1, F1, μ1, rep1, AftS.bind2 (Fv := Fv1) q1 m1 x1 fun os st2 ws H2 μ2 Fv2 F2 e2 m2 r2 rep2 d2 l2 x2 h2 => ?_⟩
      cases ea : appG (.obj k) os st2 with
      | none => rw [ea] at h2; exact h2.elim
      | some st3 =>
        rw [ea] at h2
        obtain ⟨k', x, ys, ek, rfl, eg2, hsm, hd, rfl⟩ := appG_some ea
        cases ek
        cases r2 with
        | @cons w _ _ _ r3 r4 =>
          cases r4
          obtain ⟨l', vs2, em2, h3, h4, back⟩ := rep2.setLs eg2
          have em3 := prefix_at m2 em
          rw [em3] at em2; cases em2
          obtain ⟨kp, c6, c7⟩ := back _ _ (paired_snoc h4 r3)
          exact ⟨_, vs2, w, rfl, rfl, h3, by rw [h4.length]; exact small_lt hsm, h2 σ _ μ2 F2 (m1.trans m2) c6 (((x1.imp fun a z => .inr z : Ext H F H1 F1).trans (x2.imp fun a z => .inr z)).trans c7)⟩
  · exact q1.elim
theorem se_popV (ha : SE X W o fa) (hbase : attributeBase o "pop" X.env (eval o X.env) = eval o X.env := by rfl) (hline : (apos.endLine == cpos.line) = true := by rfl) : SE X W (.Call (.Attribute o "pop" apos) [] [] cpos) (xPopV fa) := by
  refine ⟨PE.imp (pe_bm0 PySem.F.plainAttrs_list PySem.F.slot_list_pop PySem.F.type_list_pop mt_pop ha.pe hbase hline) fun σ H Q ⟨st, F, μ, rep, q⟩ => ?_⟩
  refine ⟨st, F, μ, rep, Aft.bind (Fv := fun _ => False) q (List.prefix_refl _) (Ext.refl fun a z => z.elim False.elim id) fun o1 st1 v1 H1 μ1 Fv1 F1 e1 m1 r1 rep1 d1 l1 x1 q1 => ?_⟩
  unfold popG at q1
  split at q1
  · rename_i oo st2 hp
    split at hp
    · rename_i k
      split at hp
      · rename_i xs eg
        split at hp
        · rename_i y ey
          cases hp
          cases r1 with
          | obj em =>
            obtain ⟨l, vs, em', h3, h4, back⟩ := rep1.setLs eg
            rw [em] at em'; cases em'
            obtain ⟨v, k1, k2⟩ := paired_get h4 ey
            obtain ⟨kp, c6, c7⟩ := back _ _ (paired_drop h4)
            rw [← h4.length] at k1
            exact ⟨.inl ⟨rfl, vs, SqL.of h3⟩, _, vs, v, rfl, rfl, h3, k1, q1 v _ μ1 (fun _ => False) F1 m1 (k2.step (List.prefix_refl _) (fun _ z => z.elim) kp) c6 (fun _ z => z.elim) (fun _ z => z.elim) (((x1.imp fun a z => .inr z : Ext H F H1 F1).trans c7).imp fun a z => z.elim False.elim id)⟩
        · cases hp
      · cases hp
    · cases hp
  · exact q1.elim
/-- a dict of the store, changed -/
theorem Rep.setDs {K : PySem.W.Frag} (h : Rep K σ μ H F st) {k : Nat} {es : List (PyData × PyData)} (e : st.g[k]? = some (.dct es)) : ∃ (l : Addr), μ[k]? = some l ∧ DRo K H l es ∧
    ∀ (u' : HO) (xs' : List (V × PyData × V)) (es' : List (PyData × PyData)), Mut (some u') → DOf l u' xs' → RpD K (upd H l u') xs' es' → Kp H (upd H l u') → Rep K σ μ (upd H l u') F { st with g := st.g.set k (.dct es') } ∧ Ext H F (upd H l u') F := by
  obtain ⟨l, G, em, oc, gf, back⟩ := h.chgC e
  have D : DRo K H l es := by
    obtain ⟨a', em', oc'⟩ := h.cell e
    rw [em] at em'; cases em'
    cases oc' with
    | dct c1 c2 c3 c4 =>
      obtain ⟨a2, e2, D, _⟩ := (Own.dct c1 c2 c3 c4 : Own K μ H F (.ref l) (.dct es)).dro
      cases e2
      exact D
  cases oc with
  | dct c1 c2 c3 c4 =>
    refine ⟨l, em, D, fun u' xs' es' mu d r kp => ?_⟩
    refine back _ _ (fun b hb => upd_ne fun z => hb (z ▸ c4)) kp (fun b hb => ?_) (.dct upd_same d r c4)
    by_cases z : b = l
    · subst z; rw [upd_same]; simp
    · rw [upd_ne z]; exact h.live b (gf b hb)
theorem ss_setDV (hu : X.A.units + 65 < cLine) (h : SE X W e f) (ho : SE X W a fa) (hi : SE X W ie fi) {tp : Pos} (hs : swapsWithSole [.Subscript a ie tp] e pos.line X.env = pure false := by rfl) (hw : swappedStores [.Subscript a ie tp] e X.env = pure none := by rfl)
    (h1 : (assignEach [.Subscript a ie tp] X.env).map (·.2) = [assign (.Subscript a ie tp) X.env] := by rfl)
    (ha : ∀ v, assign (.Subscript a ie tp) X.env v = (do
      let ov ← holding [v] (eval a X.env)
      let iv ← holding [v, ov] (eval ie X.env)
      standAt tp
      holding [v, ov, iv] (setItem ov iv v)
      release [v, ov, iv] []) := by intro _; rfl) :
    SS X W (.Assign [.Subscript a ie tp] e pos) (sSetDV fa f fi) := by
  refine ⟨PS.imp (ps_asg (se_fz h).pe (pg_sub ho.pe hi.pe (set_dct hu) ha) hs hw h1) fun D σ H ⟨st, F, μ, rep, q⟩ => ?_⟩
  refine ⟨st, F, μ, rep, AftS.bind q fun o st1 v H1 μ1 Fv1 F1 eo m1 r1 rep1 dj1 lv1 x1 h2 => ?_⟩
  have X1 : Ext H F H1 F1 := x1.imp fun a z => .inr z
  refine ⟨st1, F1, μ1, rep1, AftS.bind2 (Fv := fun _ => False) h2 m1 (X1.imp fun a z => z.elim False.elim id) fun ov st2 w H2 μ2 Fv2 F2 e2 m2 r2 rep2 dj2 lv2 x2 h3 => ?_⟩
  have X2 : Ext H F H2 F2 := X1.trans (x2.imp fun a z => .inr z)
  refine ⟨st2, F2, μ2, rep2, AftS.bind2 (Fv := fun _ => False) h3 (m1.trans m2) (X2.imp fun a z => z.elim False.elim id) fun iv st3 iw H3 μ3 Fv3 F3 e3 m3 r3 rep3 dj3 lv3 x3 h4 => ?_⟩
  have fo := xFz_frz _ _ _ eo
  cases es : setDG o ov iv st3 with
  | none => rw [es] at h4; exact h4.elim
  | some st4 =>
    rw [es] at h4
    unfold setDG at es
    rw [fo] at es
    split at es
    · rename_i y k kd
      split at es
      · rename_i ds eg
        split at es
        · rename_i ok
          obtain ⟨ok1, ok2⟩ := Bool.and_eq_true_iff.mp ok
          cases es
          cases r2 with
          | obj em =>
            obtain ⟨l, em2, DD, back⟩ := rep3.setDs eg
            have em3 := em
            obtain ⟨t, rfl⟩ := m3
            rw [List.getElem?_append_left (List.getElem?_eq_some_iff.mp em).1, em] at em2
            cases em2
            refine ⟨_, ds, kd, y, rfl, DD, small_lt ok2, r3.rp, ok1, (r1.rp.kp x2.kp).kp x3.kp, fun u' xs' mu dd r kp => ?_⟩
            obtain ⟨c5, c6⟩ := back u' xs' _ mu dd r kp
            exact h4 σ _ _ F3 ((m1.trans m2).trans (List.prefix_append ..)) c5 ((X2.trans (x3.imp fun a z => .inr z)).trans c6)
        · cases es
      · cases es
    · cases es
end
/-! ### methods -/
/-- method m of the class c does sem -/
structure CalM (P : Program) (w : World) (K : PySem.W.Frag) (mg : Str → Option Value) (base : Heap) (k : Nat) (c m : Str) (ps : List Str) (sem : FSem) : Prop where
  ex : ∃ fd, FnOk P w K mg base (L2.CX P w) k (He.ma K (He.ga K c) m) fd ps (spOf K sem ps.length) ∧ Cls K (He.ga K c) ∧ Meth K (He.ga K c) m (He.ma K (He.ga K c) m) ∧ Binds K fd ps []
theorem CalM.mono {P : Program} {w : World} {K : PySem.W.Frag} {mg : Str → Option Value} {base : Heap} {j k : Nat} {c m : Str} {ps : List Str} {sem : FSem} (h : CalM P w K mg base j c m ps sem) (le : j ≤ k) : CalM P w K mg base k c m ps sem := by
  obtain ⟨fd, a, b⟩ := h.ex
  exact ⟨fd, a.mono le, b⟩
/-- the class c, made by an __init__ that does sem -/
structure CalI (P : Program) (w : World) (K : PySem.W.Frag) (mg : Str → Option Value) (base : Heap) (k : Nat) (c : Str) (ps : List Str) (sem : FSem) : Prop where
  ex : ∃ j fd, j + 1 ≤ k ∧ FnOk P w K mg base (L2.CX P w) j (He.ma K (He.ga K c) "__init__") fd ps (spOf K sem ps.length) ∧ Mk K (He.ga K c) (He.ma K (He.ga K c) "__init__") ∧ mg c = some (.ref (He.ga K c)) ∧ Binds K fd ps []
theorem CalI.mono {P : Program} {w : World} {K : PySem.W.Frag} {mg : Str → Option Value} {base : Heap} {j k : Nat} {c : Str} {ps : List Str} {sem : FSem} (h : CalI P w K mg base j c ps sem) (le : j ≤ k) : CalI P w K mg base k c ps sem := by
  obtain ⟨i, fd, a, b⟩ := h.ex
  exact ⟨i, fd, by omega, b⟩
def isIns (c m : Str) (g : List Cell) (a : O) : Bool := match a with
  | .obj k => match g[k]? with
    | some (.ins c' fs) => decide (c' = c) && (fs.lookup m).isNone
    | _ => false
  | _ => false
theorem isIns_some {c m : Str} {g : List Cell} {a : O} (h : isIns c m g a = true) : ∃ k fs, a = .obj k ∧ g[k]? = some (.ins c fs) ∧ fs.lookup m = none := by
  unfold isIns at h
  split at h
  · split at h
    · rename_i c' fs e
      obtain ⟨h1, h2⟩ := Bool.and_eq_true_iff.mp h
      have h1 := of_decide_eq_true h1
      subst h1
      exact ⟨_, fs, rfl, e, Option.isNone_iff_eq_none.mp h2⟩
    · cases h
  · cases h
def callO (n : Nat) (sem : FSem) (os : List O) (st : St) : Out O := if os.length = n then match sem os st.g with
  | .ok o g' => .ok o { st with g := g' }
  | .exc c g' => .exc c { st with g := g' }
  | .no => .no
  else .no
def xMeth (c m : Str) (n : Nat) (sem : FSem) (fa : XE) (g : St → Out (List O)) : XE := fun st => bindO (fa st) fun a st => if isIns c m st.g a then bindO (g st) fun os st => callO n sem (a :: os) st else .no
def tMethT (C : Addr) (m : Str) (sp : Sp) (E : L2.St → XK) (ta : TE) (t : TA) : TE := fun σ H Q => ta σ H fun x H1 => ∃ a dx fs, x = .ref a ∧ H1 a = some (.ins C dx fs) ∧ fs.lookup m = none ∧ t σ H1 fun vs H2 => sp (x :: vs) H2 Q (E σ)
section
variable {X : Cx} {CX : CXT} {k : Nat} {f C : Addr} {fd : FuncData} {ps : List Str} {sp : Sp} {E : L2.St → XK} {x m : Str} {p pos apos : Pos} {e o : Expr} {es : List Expr} {ta : TE} {t : TA}
theorem pe_methT {pl : Sem Bool} (he : PE X o ta) (c : Cls X.K C) (hm : Meth X.K C m f) (F : FnOk X.prog X.w X.K X.mg X.base CX k f fd ps sp) (hr : Room k X.A) (hb : Binds X.K fd ps []) (hx : ∀ σ, PassesAt CX X σ (E σ)) (ha : PA X (e :: es) t)
    (hst : starEach (e :: es) X.env = (false, eval e X.env) :: starEach es X.env := by rfl) (hpl : (backTo pos (starEach es X.env)).any (·.1) = false := by rfl)
    (ht : eval (.Call (.Attribute o m apos) (e :: es) [] pos) X.env = (do
      let ov ← eval o X.env
      standAt apos.atName
      let (f, first) ← holding [ov] (getMethod ov m pl)
      callWith pos f first (backTo pos (starEach (e :: es) X.env)) (backToKw pos (keywordEach [] X.env))) := by rfl) :
    PE X (.Call (.Attribute o m apos) (e :: es) [] pos) (tMethT C m sp E ta t) := by
  refine ⟨fun pins s σ H Q I h => ?_⟩
  refine PySem.W.methodCall_KW (pl := pl) (thn (he.run pins s σ H _ I h) fun u s1 ⟨x, H1, I1, rx, a, dx, fs, ex, ea, l, q⟩ => ?_) ht
  subst ex
  obtain rfl : u = Value.ref a := rx
  refine getmeth_ok I1 ea c hm l ?_
  refine PySem.W.callWith_K (first := [.ref a]) (h₀ := X.base) I.ok.mod.kin hm.kp (thn (ha.run pos pins s1 σ H1 _ I1 q) fun us s2 ⟨vs, H2, I2, r, q2⟩ => ⟨I2.kIn, ?_⟩) hst hpl
  exact run_fnS (us := .ref a :: us) (vs := .ref a :: vs) F hr hb (hx σ) I2 (.cons rfl r) q2
theorem pe_methT0 {pl : Sem Bool} (he : PE X o ta) (c : Cls X.K C) (hm : Meth X.K C m f) (F : FnOk X.prog X.w X.K X.mg X.base CX k f fd ps sp) (hr : Room k X.A) (hb : Binds X.K fd ps []) (hx : ∀ σ, PassesAt CX X σ (E σ))
    (ht : eval (.Call (.Attribute o m apos) [] [] pos) X.env = (do
      let ov ← eval o X.env
      standAt apos.atName
      let (f, first) ← holding [ov] (getMethod ov m pl)
      callWith pos f first (backTo pos (starEach [] X.env)) (backToKw pos (keywordEach [] X.env))) := by rfl) :
    PE X (.Call (.Attribute o m apos) [] [] pos) (tMethT C m sp E ta tNil) := by
  refine ⟨fun pins s σ H Q I h => ?_⟩
  refine PySem.W.methodCall_KW (pl := pl) (thn (he.run pins s σ H _ I h) fun u s1 ⟨x, H1, I1, rx, a, dx, fs, ex, ea, l, q⟩ => ?_) ht
  subst ex
  obtain rfl : u = Value.ref a := rx
  refine getmeth_ok I1 ea c hm l ?_
  exact PySem.W.callWith_K0 (first := [.ref a]) I1.kIn hm.kp (run_fnS (us := [.ref a]) (vs := [.ref a]) F hr hb (hx σ) I1 (.cons rfl .nil) q)
def tMakeT (C : Addr) (sp : Sp) (E : L2.St → XK) (t : TA) : TE := fun σ H Q => t σ H fun vs H1 => ∀ x dx, H1 x = none → H1 dx = none → dx ≠ x →
  sp (.ref x :: vs) (upd (upd H1 dx (.own x)) x (.ins C dx [])) (fun v H2 => v = .non ∧ Q (.ref x) H2) (E σ)
theorem run_makeT {pins : List (Addr × Obj)} {σ : L2.St} {H : Hp} {s : Shared} {Q : VK} {us : List Value} {vs : List V} {E : XK} (M : Mk X.K C f) (F : FnOk X.prog X.w X.K X.mg X.base CX k f fd ps sp) (hr : Room (k + 1) X.A) (hb : Binds X.K fd ps [])
    (hx : PassesAt CX X σ E) (I : Inv X pins σ H s) (r : Vals vs us)
    (h : ∀ x dx, H x = none → H dx = none → dx ≠ x → sp (.ref x :: vs) (upd (upd H dx (.own x)) x (.ins C dx [])) (fun v H2 => v = .non ∧ Q (.ref x) H2) E) :
    wpAny (model X.prog X.w) X.A (call (.ref C) us) (EP X pins σ Q) X.xe s := by
  have hq := h (s.heap.objs.size + 1) s.heap.objs.size (I.hok.fresh (Nat.le_succ _)) (I.hok.fresh (Nat.le_refl _)) (Nat.ne_of_lt (Nat.lt_succ_self _))
  have I2 := Inv.made (C := C) I
  have r2 : Vals (V.ref (s.heap.objs.size + 1) :: vs) (Value.ref (s.heap.objs.size + 1) :: us) := .cons rfl r
  have hl : (Value.ref (s.heap.objs.size + 1) :: us).length = ps.length := by
    have e := r2.length
    rw [F.len _ _ _ _ hq] at e
    exact e.symm
  have b := hb _ (Value.ref (s.heap.objs.size + 1) :: us) I2.kIn (by rw [List.append_nil]; exact hl)
  rw [List.append_nil] at b
  refine wpAny_call (make_map (f := f) I.kIn M.makes M.init (beq_iff_eq.mp M.fn) (codeAny_mono (F.run _ X.stack _ _ ⟨Value.ref (s.heap.objs.size + 1) :: us, []⟩ (Value.ref (s.heap.objs.size + 1) :: us) _ _ E (hr.make C us [])
    (I2.env0.make C us []) b r2 hq) fun r s' hq' => ?_))
  cases r with
  | error e => exact hx pins _ _ e s' I2 hq'
  | ok fl =>
    cases fl with
    | ret u =>
      obtain ⟨v, H', I3, rv, ev, q3⟩ := I2.after hq'
      subst ev
      exact ⟨rv, ⟨V.ref (s.heap.objs.size + 1), H', I3, rfl, q3⟩⟩
    | next => exact False.elim hq'
    | brk => exact False.elim hq'
    | cont => exact False.elim hq'
theorem pe_makeT (M : Mk X.K C f) (F : FnOk X.prog X.w X.K X.mg X.base CX k f fd ps sp) (hr : Room (k + 1) X.A) (hg : Gl X x) (hm : X.mg x = some (.ref C)) (hb : Binds X.K fd ps []) (hx : ∀ σ, PassesAt CX X σ (E σ))
    (ha : PA X (e :: es) t) (hdb : (x == ("__debug__" : Str)) = false := by decide) (he : starEach (e :: es) X.env = (false, eval e X.env) :: starEach es X.env := by rfl) (hpl : (backTo pos (starEach es X.env)).any (·.1) = false := by rfl) :
    PE X (.Call (.Name x p) (e :: es) [] pos) (tMakeT C sp E t) := by
  refine ⟨fun pins s σ H Q I h => ?_⟩
  refine wpAny_Call_Name_kw (ld_glob I hg hm ?_ hdb)
  refine PySem.W.callWith_K (h₀ := X.base) I.ok.mod.kin M.kp (thn (ha.run pos pins s σ H _ I h) fun us s1 ⟨vs, H1, I1, r, q⟩ => ⟨I1.kIn, ?_⟩) he hpl
  exact run_makeT M F hr hb (hx σ) I1 r q
end
def xMake (c : Str) (n : Nat) (sem : FSem) (g : St → Out (List O)) : XE := fun st => bindO (g st) fun os st => if os.length + 1 = n then match sem (.obj st.g.length :: os) (st.g ++ [.ins c []]) with
  | .ok (.d .none) g' => .ok (.obj st.g.length) { st with g := g' }
  | .exc e g' => .exc e { st with g := g' }
  | _ => .no
  else .no
section
variable {X : Cx} {W : WX} {a b e o : Expr} {es : List Expr} {fa fb f : XE} {pos p apos : Pos} {σ : L2.St} {H : Hp} {st : St} {F : FP} {μ : Mu} {c m : Str} {ps : List Str} {sem : FSem} {k n : Nat} {g : St → Out (List O)}
/-- the callee runs, at the end -/
theorem callO_core {os : List O} {vs : List V} {H0 : Hp} {F0 G : FP} {μ0 : Mu} {Q : V → Hp → Prop} (hn : ps.length = n) (rep : Rep X.K σ μ H F st) (pr : Paired (Own X.K μ H (fun _ => False)) vs os) (q : Aft X.K W σ (fun μ H Fv (v : V) o => Own X.K μ H Fv v o) (callO n sem os st) μ0 H0 F0 Q) (m : μ0 <+: μ) (x : Ext H0 F0 H (fun a => G a ∨ F a)) : spOf X.K sem ps.length vs H Q (WE W σ) := by
  subst hn
  unfold callO at q
  split at q
  · rename_i hl
    obtain ⟨Fg, gr, back⟩ := rep.call
    refine ⟨os, st.g, Fg, μ, hl, pr, gr, ?_⟩
    have x1 : Ext H0 F0 H F := x.imp fun a z => .inr z
    split at q
    · rename_i o g' es
      try rw [es]
      intro v H' μ' Fv Fg' m2 ow gr' dj lv ex
      obtain ⟨F', rep', dj', ex'⟩ := back μ' H' Fv Fg' g' m2 gr' dj lv ex
      exact q v H' μ' Fv F' (m.trans m2) ow rep' dj' lv (x1.trans ex')
    · rename_i o g' es
      try rw [es]
      intro H' μ' Fg' m2 gr' ex
      obtain ⟨F', rep', dj', ex'⟩ := back μ' H' (fun _ => False) Fg' g' m2 gr' (fun _ z => z.elim) (fun _ z => z.elim) (ex.imp fun a z => z.elim False.elim id)
      exact q H' μ' F' (m.trans m2) rep' (x1.trans (ex'.imp fun a z => .inr z))
    · exact q.elim
  · exact q.elim
theorem se_meth {pl : Sem Bool} (C : CalM X.prog X.w X.K X.mg X.base k c m ps sem) (tk : Takes X W) (hr : Room k X.A) (ho : SE X W o fa) (ha : SA X W (e :: es) g) (hn : ps.length = n := by rfl)
    (hst : starEach (e :: es) X.env = (false, eval e X.env) :: starEach es X.env := by rfl) (hpl : (backTo pos (starEach es X.env)).any (·.1) = false := by rfl)
    (ht : eval (.Call (.Attribute o m apos) (e :: es) [] pos) X.env = (do
      let ov ← eval o X.env
      standAt apos.atName
      let (f, first) ← holding [ov] (getMethod ov m pl)
      callWith pos f first (backTo pos (starEach (e :: es) X.env)) (backToKw pos (keywordEach [] X.env))) := by rfl) :
    SE X W (.Call (.Attribute o m apos) (e :: es) [] pos) (xMeth c m n sem fa g) := by
  obtain ⟨fd, FN, cl, mt, hb⟩ := C.ex
  refine ⟨PE.imp (pe_methT (E := WE W) ho.pe cl mt FN hr hb (passAt tk) ha.pa hst hpl ht) fun σ H Q ⟨st, F, μ, rep, q⟩ => ?_⟩
  refine ⟨st, F, μ, rep, Aft.bind (Fv := fun _ => False) q (List.prefix_refl _) (Ext.refl fun a z => z.elim False.elim id) fun o1 st1 v1 H1 μ1 Fv1 F1 e1 m1 r1 rep1 d1 l1 x1 q1 => ?_⟩
  split at q1
  · rename_i hi
    obtain ⟨k', fs, rfl, eg, lk⟩ := isIns_some hi
    cases r1 with
    | obj em =>
      obtain ⟨a', em', oc⟩ := rep1.cell eg
      rw [em] at em'; cases em'
      cases oc with
      | ins c1 c2 c3 c4 c5 =>
        rcases lookup_pair (fun v f z => z.1) c3 m with ⟨n1, n2⟩ | ⟨o, v, nn, n1, n2, _⟩
        · refine ⟨_, _, _, rfl, c1, n2, st1, F1, μ1, rep1, Aft.bind (Fv := Fv1) q1 m1 x1 fun os st2 vs H2 μ2 Fv2 F2 e2 m2 r2 rep2 d2 l2 x2 q2 => ?_⟩
          have em2 := prefix_at m2 em
          exact callO_core (G := fun a => Fv1 a ∨ Fv2 a) hn rep2 (.cons (.obj em2) r2) q2 (m1.trans m2) (x1.trans ((x2.frame (G := Fv1)).imp fun a z => by rcases z with (z | z) | z; exact .inl z; exact .inr (.inl z); exact .inr (.inr z)))
        · rw [lk] at n1; cases n1
  · exact q1.elim
theorem se_meth0 {pl : Sem Bool} (C : CalM X.prog X.w X.K X.mg X.base k c m ps sem) (tk : Takes X W) (hr : Room k X.A) (ho : SE X W o fa) (hn : ps.length = n := by rfl)
    (ht : eval (.Call (.Attribute o m apos) [] [] pos) X.env = (do
      let ov ← eval o X.env
      standAt apos.atName
      let (f, first) ← holding [ov] (getMethod ov m pl)
      callWith pos f first (backTo pos (starEach [] X.env)) (backToKw pos (keywordEach [] X.env))) := by rfl) :
    SE X W (.Call (.Attribute o m apos) [] [] pos) (xMeth c m n sem fa aNil) := by
  obtain ⟨fd, FN, cl, mt, hb⟩ := C.ex
  refine ⟨PE.imp (pe_methT0 (E := WE W) ho.pe cl mt FN hr hb (passAt tk) ht) fun σ H Q ⟨st, F, μ, rep, q⟩ => ?_⟩
  refine ⟨st, F, μ, rep, Aft.bind (Fv := fun _ => False) q (List.prefix_refl _) (Ext.refl fun a z => z.elim False.elim id) fun o1 st1 v1 H1 μ1 Fv1 F1 e1 m1 r1 rep1 d1 l1 x1 q1 => ?_⟩
  split at q1
  · rename_i hi
    obtain ⟨k', fs, rfl, eg, lk⟩ := isIns_some hi
    cases r1 with
    | obj em =>
      obtain ⟨a', em', oc⟩ := rep1.cell eg
      rw [em] at em'; cases em'
      cases oc with
      | ins c1 c2 c3 c4 c5 =>
        rcases lookup_pair (fun v f z => z.1) c3 m with ⟨n1, n2⟩ | ⟨o, v, nn, n1, n2, _⟩
        · exact ⟨_, _, _, rfl, c1, n2, callO_core (G := Fv1) hn rep1 (.cons (.obj em) .nil) q1 m1 x1⟩
        · rw [lk] at n1; cases n1
  · exact q1.elim
theorem se_make (C : CalI X.prog X.w X.K X.mg X.base k c ps sem) (tk : Takes X W) (hr : Room k X.A) (ha : SA X W (e :: es) g) (hn : ps.length = n := by rfl) (hg : Gl X c := by rfl) (hdb : (c == ("__debug__" : Str)) = false := by decide) (he : starEach (e :: es) X.env = (false, eval e X.env) :: starEach es X.env := by rfl) (hpl : (backTo pos (starEach es X.env)).any (·.1) = false := by rfl) :
    SE X W (.Call (.Name c p) (e :: es) [] pos) (xMake c n sem g) := by
  subst hn
  obtain ⟨j, fd, le, FN, mk, hm, hb⟩ := C.ex
  refine ⟨PE.imp (pe_makeT (E := WE W) mk FN (hr.mono le) hg hm hb (passAt tk) ha.pa hdb he hpl) fun σ H Q ⟨st, F, μ, rep, q⟩ => ?_⟩
  refine ⟨st, F, μ, rep, Aft.bind (Fv := fun _ => False) q (List.prefix_refl _) (Ext.refl fun a z => z.elim False.elim id) fun os st1 vs H1 μ1 Fv1 F1 e1 m1 r1 rep1 d1 l1 x1 q1 => ?_⟩
  intro x dx nx ndx nex
  split at q1
  · rename_i hl
    have g1 : ∀ b u, H1 b = some u → (upd (upd H1 dx (.own x)) x (.ins (He.ga X.K c) dx [])) b = some u := fun b u q => by
      rw [upd_ne (ne_of_none q nx), upd_ne (ne_of_none q ndx)]; exact q
    have kp : Kp H1 (upd (upd H1 dx (.own x)) x (.ins (He.ga X.K c) dx [])) := ⟨fun a xs q => g1 a _ q, fun a o u q => g1 a _ q⟩
    have hdx : (upd (upd H1 dx (.own x)) x (.ins (He.ga X.K c) dx [])) dx = some (.own x) := by rw [upd_ne nex, upd_same]
    have R1 := (rep1.grow g1).pushC (G := fun a => a = x ∨ a = dx) (c := .ins c []) (p := x) (.ins upd_same hdx .nil (.inl rfl) (.inr rfl)) (fun a z w => by
      rcases z with rfl | rfl
      · exact rep1.live _ w nx
      · exact rep1.live _ w ndx) (fun a z => by
      rcases z with rfl | rfl
      · rw [upd_same]; simp
      · rw [hdx]; simp)
    have hm1 := rep1.mu
    obtain ⟨Fg, gr, back⟩ := R1.call
    have X1 : Ext H F H1 F1 := x1.imp fun a z => .inr z
    have X2 : Ext H F (upd (upd H1 dx (.own x)) x (.ins (He.ga X.K c) dx [])) (fun a => F1 a ∨ a = x ∨ a = dx) := X1.grow g1 fun a z => by
      rcases z with z | rfl | rfl
      · exact .inl z
      · exact .inr nx
      · exact .inr ndx
    have em : (μ1 ++ [x])[st1.g.length]? = some x := by rw [← hm1]; simp
    refine ⟨.obj st1.g.length :: os, _, Fg, μ1 ++ [x], by simpa using hl, .cons (.obj em) (Own.steps r1 (List.prefix_append ..) kp), gr, ?_⟩
    split at q1
    · rename_i g' es
      try rw [es]
      intro v H' μ' Fv Fg' m2 ow gr' dj lv ex
      cases ow.none
      obtain ⟨F', rep', dj', ex'⟩ := back μ' H' Fv Fg' g' m2 gr' dj lv ex
      refine ⟨rfl, q1 (.ref x) H' μ' (fun _ => False) F' ((m1.trans (List.prefix_append ..)).trans m2) (.obj ?_) rep' (fun _ z => z.elim) (fun _ z => z.elim) ?_⟩
      · obtain ⟨t, rfl⟩ := m2
        rw [List.getElem?_append_left (by simp [hm1])]; exact em
      · exact (X2.trans (ex'.imp fun a z => .inr z)).imp fun a z => z.elim False.elim id
    · rename_i c' g' es
      try rw [es]
      intro H' μ' Fg' m2 gr' ex
      obtain ⟨F', rep', dj', ex'⟩ := back μ' H' (fun _ => False) Fg' g' m2 gr' (fun _ z => z.elim) (fun _ z => z.elim) (ex.imp fun a z => z.elim False.elim id)
      exact q1 H' μ' F' ((m1.trans (List.prefix_append ..)).trans m2) rep' (X2.trans (ex'.imp fun a z => .inr z))
    · exact q1.elim
  · exact q1.elim
end
end Tr
namespace Tr
open PySem PySem.Spec PyProof.Rows L2
/-! ### len(x) of an instance whose class has __len__ -/
def rLenM (C : Addr) (sp : Sp) : List V → Hp → VK → Prop := fun xs H Q => ∃ (a dx : Addr) (fs : List (Str × V)), xs = [.ref a] ∧ H a = some (.ins C dx fs) ∧ sp [.ref a] H (fun v H2 => ∃ n : Int, v = .int n ∧ 0 ≤ n ∧ n < 2 ^ 63 ∧ Q (.int n) H2) E0
theorem call_lenM {X : Cx} {k : Nat} {C f : Addr} {fd : FuncData} {ps : List Str} {sp : Sp} (hm : Meth X.K C "__len__" f) (F : FnOk X.prog X.w X.K X.mg X.base (L2.CX X.prog X.w) k f fd ps sp) (hr : Room (k + 1) X.A) (hb : Binds X.K fd ps []) : CallR X (.builtin "len") (rLenM C sp) := by
  intro pins s σ H xs us Q I r h
  obtain ⟨a, dx, fs, rfl, e, h⟩ := h
  rw [Vals.ref1 r]
  obtain ⟨mA, O, _, _, _, _⟩ := ins_get I.hok e
  obtain ⟨od, J, hl⟩ := O.look
  have hlen : ([Value.ref a] : List Value).length = ps.length := by rw [← F.len _ _ _ _ h] <;> rfl
  have b := hb s [.ref a] I.kIn (by rw [List.append_nil]; exact hlen)
  rw [List.append_nil] at b
  have key : wpAny (model X.prog X.w) X.A.in1 (call (.ref f) [.ref a]) (fun r s' => ∃ (n : Int) (t : Tok) (H' : Hp), r = .int n t ∧ 0 ≤ n ∧ n < 2 ^ 63 ∧ Inv X pins σ H' s' ∧ Q (.int n) H') X.xe s := by
    refine wpAny_call (codeAny_mono (F.run X.A.in1 X.stack s H ⟨[.ref a], []⟩ [.ref a] [.ref a] _ E0 hr.in1 I.env0.in1 b (.cons rfl .nil) h) fun r s' hq => ?_)
    cases r with
    | error e => exact passL pins σ H s e s' I hq
    | ok fl =>
      cases fl with
      | ret u =>
        obtain ⟨v, H', I3, rv, n, ev, n0, n1, q⟩ := I.after hq
        subst ev
        obtain ⟨t, rfl⟩ := rv
        exact ⟨n, t, H', rfl, n0, n1, I3, q⟩
      | next => exact False.elim hq
      | brk => exact False.elim hq
      | cont => exact False.elim hq
  refine Calls.call_function_entry kind_len plain_len entry_len (args_len1 _) ?_
  unfold Builtin.«len»
  refine wpAny_bind (m := oneArg "len" _) (wpAny_pure ?_)
  refine wpAny_bind (m := callSpecial? (.ref a) (Str.ofString "__len__")) (PySem.W.special_fn I.kIn J hm.at_ (beq_iff_eq.mp hm.fn) (wpAny_mono key (fun r s' hr => ?_) fun _ _ y => y))
  obtain ⟨n, t, H', rfl, n0, n1, I3, q⟩ := hr
  refine wpAny_bind (wpAny_holding (wpAny_pure ?_))
  refine wpAny_bind (wpAny_letGo ?_)
  show wpAny _ _ (if n < 0 then _ else _) _ _ _
  rw [if_neg (by omega)]
  show wpAny _ _ (if n ≥ 2 ^ 63 then _ else _) _ _ _
  rw [if_neg (by omega)]
  exact wpAny_bind (wpAny_mkInt (wpAny_pure ⟨_, rfl, .int n, H', I3.tok _, ⟨_, rfl⟩, q⟩))
def xLenM (c : Str) (sem : FSem) (fa : XE) : XE := fun st => bindO (fa st) fun a st => if isIns c "__len__" st.g a then match sem [a] st.g with
  | .ok (.d (.int n)) g' => if 0 ≤ n ∧ n < 4611686018427387904 then .ok (.d (.int n)) { st with g := g' } else .no
  | _ => .no
  else .no
theorem se_lenM {X : Cx} {W : WX} {o : Expr} {fa : XE} {p pos : Pos} {c : Str} {ps : List Str} {sem : FSem} {k : Nat} (C : CalM X.prog X.w X.K X.mg X.base k c "__len__" ps sem) (hr : Room (k + 1) X.A) (hm : X.mg "len" = none) (ho : SE X W o fa) (hg : Gl X "len" := by rfl) (hn : ps.length = 1 := by rfl)
    (he : starEach [o] X.env = (false, eval o X.env) :: starEach [] X.env := by rfl) (hpl : (backTo pos (starEach [] X.env)).any (·.1) = false := by rfl) : SE X W (.Call (.Name "len" p) [o] [] pos) (xLenM c sem fa) := by
  obtain ⟨fd, FN, cl, mt, hb⟩ := C.ex
  refine ⟨PE.imp (pe_callB (call_lenM mt FN hr hb) hg hm PySem.boot_len (pa_cons ho.pe pa_nil he) (by decide) (by decide) he hpl) fun σ H Q ⟨st, F, μ, rep, q⟩ => ?_⟩
  refine ⟨st, F, μ, rep, Aft.bind (Fv := fun _ => False) q (List.prefix_refl _) (Ext.refl fun a z => z.elim False.elim id) fun o1 st1 v1 H1 μ1 Fv1 F1 e1 m1 r1 rep1 d1 l1 x1 q1 => ?_⟩
  split at q1
  · rename_i hi
    obtain ⟨k', fs, rfl, eg, lk⟩ := isIns_some hi
    cases r1 with
    | obj em =>
      obtain ⟨a', em', oc⟩ := rep1.cell eg
      rw [em] at em'; cases em'
      cases oc with
      | ins c1 c2 c3 c4 c5 =>
        refine ⟨_, _, _, rfl, c1, ?_⟩
        obtain ⟨Fg, gr, back⟩ := rep1.call
        refine ⟨[.obj k'], st1.g, Fg, μ1, by rw [hn]; rfl, .cons (.obj em) .nil, gr, ?_⟩
        split at q1
        · rename_i n g' es
          try rw [es]
          split at q1
          · rename_i hb
            intro v H' μ' Fv Fg' m2 ow gr' dj lv ex
            obtain ⟨F', rep', dj', ex'⟩ := back μ' H' Fv Fg' g' m2 gr' dj lv ex
            cases ow.int
            have h2 : (2 : Int) ^ 63 = 9223372036854775808 := by decide
            exact ⟨n, rfl, hb.1, by rw [h2]; omega, (Aft.fin (G := Fv) q1 (m1.trans m2) rep' ((x1.imp fun a z => .inr z : Ext H F H1 F1).trans ex')).datum (.int n)⟩
          · exact q1.elim
        · exact q1.elim
  · exact q1.elim
/-- the class c has a __len__ that does sem -/
structure CalL (P : Program) (w : World) (K : PySem.W.Frag) (mg : Str → Option Value) (base : Heap) (k : Nat) (c : Str) (ps : List Str) (sem : FSem) : Prop where
  ex : ∃ j, j + 1 ≤ k ∧ CalM P w K mg base j c "__len__" ps sem
theorem CalL.mono {P : Program} {w : World} {K : PySem.W.Frag} {mg : Str → Option Value} {base : Heap} {j k : Nat} {c : Str} {ps : List Str} {sem : FSem} (h : CalL P w K mg base j c ps sem) (le : j ≤ k) : CalL P w K mg base k c ps sem := by
  obtain ⟨i, a, b⟩ := h.ex
  exact ⟨i, by omega, b⟩
theorem se_lenL {X : Cx} {W : WX} {o : Expr} {fa : XE} {p pos : Pos} {c : Str} {ps : List Str} {sem : FSem} {k : Nat} (C : CalL X.prog X.w X.K X.mg X.base k c ps sem) (hr : Room k X.A) (hm : X.mg "len" = none) (ho : SE X W o fa) (hg : Gl X "len" := by rfl) (hn : ps.length = 1 := by rfl)
    (he : starEach [o] X.env = (false, eval o X.env) :: starEach [] X.env := by rfl) (hpl : (backTo pos (starEach [] X.env)).any (·.1) = false := by rfl) : SE X W (.Call (.Name "len" p) [o] [] pos) (xLenM c sem fa) := by
  obtain ⟨j, le, h⟩ := C.ex
  exact se_lenM h (hr.mono le) hm ho hg hn he hpl
end Tr
/-! TrL: the module's constants, the Hook, a law's end. -/
namespace Tr
open PySem PySem.Spec PyProof.Rows L2
/-! ### constants -/
mutual
def cB (K : PySem.W.Frag) : PyData → Value → Bool
  | .none, .none => true
  | .bool b, .bool c => b == c
  | .int i, .int j _ => decide (i = j)
  | .str x, .str y _ => decide (x = y)
  | .tuple ds, .ref a => match K.lookup a with
    | some ⟨c, _, .seq its _, _⟩ => decide (c = .type "tuple") && (decide (its.size ≤ sizeLine) && cBL K ds its.toList)
    | _ => false
  | _, _ => false
def cBL (K : PySem.W.Frag) : List PyData → List Value → Bool
  | [], [] => true
  | d :: ds, u :: us => cB K d u && cBL K ds us
  | _, _ => false
end
mutual
theorem cB_ok {K : PySem.W.Frag} : ∀ (d : PyData) {u : Value}, cB K d u = true → ∃ v, RelV v u ∧ ∀ H, Rp K H v d
  | .none, u, h => by cases u <;> first | (exact ⟨.non, rfl, fun _ => .non⟩) | cases h
  | .bool b, u, h => by
    cases u <;> first | (rename_i c; have e : b = c := by simpa [cB] using h
                         subst e; exact ⟨.bl b, rfl, fun _ => .bl b⟩) | cases h
  | .int i, u, h => by
    cases u
    case int j t =>
      have e : i = j := of_decide_eq_true (show decide (i = j) = true from h)
      subst e
      exact ⟨.int i, ⟨t, rfl⟩, fun _ => .int i⟩
    all_goals cases h
  | .str x, u, h => by
    cases u
    case str y t =>
      have e : x = y := of_decide_eq_true (show decide (x = y) = true from h)
      subst e
      exact ⟨.str x, ⟨t, rfl⟩, fun _ => .str x⟩
    all_goals cases h
  | .list _, u, h => by cases u <;> cases h
  | .dict _, u, h => by cases u <;> cases h
  | .tuple ds, u, h => by
    cases u with
    | ref a =>
      unfold cB at h
      split at h
      · rename_i c od its n sl lk
        obtain ⟨h1, h2⟩ := Bool.and_eq_true_iff.mp h
        obtain ⟨h3, h4⟩ := Bool.and_eq_true_iff.mp h2
        obtain ⟨vs, hv, hr⟩ := cBL_ok ds h4
        refine ⟨.ref a, rfl, fun H => .tup (xs := vs) (.inr (.inr ⟨_, its, n, lk, of_decide_eq_true h1, rfl, of_decide_eq_true h3, hv⟩)) (hr H)⟩
      · cases h
    | _ => cases h
theorem cBL_ok {K : PySem.W.Frag} : ∀ (ds : List PyData) {us : List Value}, cBL K ds us = true → ∃ vs, Vals vs us ∧ ∀ H, RpL K H vs ds
  | [], [], _ => ⟨[], .nil, fun _ => .nil⟩
  | [], _ :: _, h => by cases h
  | _ :: _, [], h => by cases h
  | d :: ds, u :: us, h => by
    obtain ⟨h1, h2⟩ := Bool.and_eq_true_iff.mp (show (cB K d u && cBL K ds us) = true from h)
    obtain ⟨v, a, b⟩ := cB_ok d h1
    obtain ⟨vs, a2, b2⟩ := cBL_ok ds h2
    exact ⟨v :: vs, .cons a a2, fun H => .cons (b H) (b2 H)⟩
end
def cOk (K : PySem.W.Frag) (c : Str × PyData) : Bool := match PySem.W.nsIn K mainGlobals c.1 with
  | some (some u) => cB K c.2 u
  | _ => false
theorem cOk_ok {K : PySem.W.Frag} {h : Heap} {mg : Str → Option Value} (X : K.In h) (G : h.Ns mainGlobals mg) {x : Str} {d : PyData} (c : cOk K (x, d) = true) : GC K mg x d := by
  unfold cOk at c
  split at c
  · rename_i u e
    obtain ⟨v, a, b⟩ := cB_ok d c
    exact ⟨u, v, PySem.W.mg_of X G e, a, b⟩
  · cases c
/-! ### the Hook -/
abbrev AlC : Type := Bool × He.AlD
def obsC (cs : List (Str × PyData)) (ck : List (PySem.W.Frag → Bool)) (fa : List He.Fa) (fn : List He.DefD) (K : PySem.W.Frag) : AlC := (cs.all (cOk K) && ck.all (fun f => f K), He.obsD fa fn K)
def SaysC (cs : List (Str × PyData)) (ck : List (PySem.W.Frag → Bool)) (fa : List He.Fa) (fn : List He.DefD) (K : PySem.W.Frag) : Prop := obsC cs ck fa fn K = (true, He.valD fn)
def obsCG (n : Nat) (cs : List (Str × PyData)) (ck : List (PySem.W.Frag → Bool)) (fa : List He.Fa) (fn : List He.DefD) (g : Addr → Option Obj) : AlC := obsC cs ck fa fn (He.frG g (He.asD g n))
def hookC (n : Nat) (cs : List (Str × PyData)) (ck : List (PySem.W.Frag → Bool)) (fa : List He.Fa) (fn : List He.DefD) : PySem.W.Hook where
  α := AlC
  obs := fun s => obsCG n cs ck fa fn s.heap.get?
  val := fun _ => (true, He.valD fn)
  says := fun _ h => ∃ K : PySem.W.Frag, K.In h ∧ SaysC cs ck fa fn K
  of := fun _ _ e => ⟨_, He.frG_in, e⟩
  keeps := fun _ _ _ ⟨K, hK, c⟩ k => ⟨K, PySem.W.Frag.In.keeps hK k, c⟩
theorem obsCG_eq {n : Nat} {cs : List (Str × PyData)} {ck : List (PySem.W.Frag → Bool)} {fa : List He.Fa} {fn : List He.DefD} {g : Addr → Option Obj} {s : Shared} (h : ∀ a, g a = s.heap.get? a) : obsCG n cs ck fa fn g = (hookC n cs ck fa fn).obs s := by
  have e : g = s.heap.get? := funext h
  rw [e] <;> rfl
section
variable {cs : List (Str × PyData)} {ck : List (PySem.W.Frag → Bool)} {fa : List He.Fa} {fn : List He.DefD} {K : PySem.W.Frag}
theorem SaysC.d (c : SaysC cs ck fa fn K) : He.SaysD fa fn K := congrArg (fun z : AlC => z.2) c
theorem SaysC.gc (c : SaysC cs ck fa fn K) {h : Heap} {mg : Str → Option Value} (X : K.In h) (G : h.Ns mainGlobals mg) (i : Nat) {x : Str} {d : PyData} (e : cs[i]? = some (x, d) := by rfl) : GC K mg x d :=
  cOk_ok X G (List.all_eq_true.mp (Bool.and_eq_true_iff.mp (show (cs.all (cOk K) && ck.all (fun f => f K)) = true from congrArg (fun z : AlC => z.1) c)).1 (x, d) (List.mem_of_getElem? e))
theorem SaysC.at (c : SaysC cs ck fa fn K) (i : Nat) {f : PySem.W.Frag → Bool} (e : ck[i]? = some f := by rfl) : f K = true :=
  List.all_eq_true.mp (Bool.and_eq_true_iff.mp (show (cs.all (cOk K) && ck.all (fun f => f K)) = true from congrArg (fun z : AlC => z.1) c)).2 f (List.mem_of_getElem? e)
theorem SaysC.xc (c : SaysC cs ck fa fn K) {h : Heap} {mg : Str → Option Value} (X : K.In h) (G : h.Ns mainGlobals mg) (i j : Nat) {x : Str} (e : fa[i]? = some (.exc x) := by rfl) (e2 : fa[j]? = some (.glo x) := by rfl) : XcF K mg x :=
  let ⟨a, b, d, f⟩ := He.exc_ok (c.d.fact i e)
  ⟨a, He.glo_ok X G (c.d.fact j e2), b, d, f⟩
end
/-! ### a law's end -/
/-- a def, at a base -/
theorem fn_def {P : Program} {w : World} {K : PySem.W.Frag} {mg : Str → Option Value} {base : Heap} {x qual : Str} {params : Arguments} {body : List Stmt} {scope : Scope} {f : Addr} {fd : FuncData} {N ps : List Str} {k : Nat} (Fd : FunD K x qual params body scope [] [] f fd) (S : FnScope N ps scope) (b : XS)
    (ok : ∀ (cdv : Value) (A : Around) (outer : List Env) (s : Shared) (H : Hp) (E : XK), Room k (A.deeper (envOfC qual scope s.heap.objs.size f cdv)) → SSs (cxOf (L2.CX P w) P w K mg base N qual scope f cdv A outer s H E) (fun c d _ H => E c d H) body b) :
    FnOk P w K mg base (L2.CX P w) (k + 1) f fd ps (spOf K (fun os g => bodyOut b N.length os g) ps.length) := by
  refine Fd.ok S (fun vs H Q E h => ?_) (fun cdv A outer s H vs Q E hr h => ?_)
  · obtain ⟨os, g, F, μ, hl, pr, gr, m⟩ := h
    rw [← hl]; exact Paired.length pr
  · obtain ⟨os, g, F, μ, hl, pr, gr, m⟩ := h
    refine ⟨_, (ok cdv A outer s H E hr).pss, _, F, μ, start_rep pr gr, ?_⟩
    unfold bodyOut at m
    dsimp only at m
    cases eb : b ⟨os.map some ++ List.replicate (N.length - os.length) none, g⟩ with
    | no => rw [eb] at m; exact m.elim
    | exc c st => rw [eb] at m; exact fun σ' H' μ' F' a b c => m H' μ' F' a b.glob c
    | ok fl st =>
      rw [eb] at m
      cases fl with
      | next => exact fun σ' H' μ' F' a b c => m .non H' μ' (fun _ => False) F' a (.d .non) b.glob (fun _ z => z.elim) (fun _ z => z.elim) (c.imp fun a z => z.elim False.elim id)
      | ret o => exact fun v σ' H' μ' Fv F' a b c d e f => m v H' μ' Fv F' a b c.glob d e f
      | brk => exact m.elim
      | cont => exact m.elim
/-- a def that does its body's function -/
theorem cal_fn {P : Program} {w : World} {K : PySem.W.Frag} {mg : Str → Option Value} {base : Heap} {x qual : Str} {params : Arguments} {body : List Stmt} {scope : Scope} {f : Addr} {fd : FuncData} {N ps : List Str} {k : Nat} (Fd : FunD K x qual params body scope [] [] f fd) (hm : mg x = some (.ref f)) (hb : Binds K fd ps []) (S : FnScope N ps scope) (b : XS)
    (ok : ∀ (cdv : Value) (A : Around) (outer : List Env) (s : Shared) (H : Hp) (E : XK), Room k (A.deeper (envOfC qual scope s.heap.objs.size f cdv)) → SSs (cxOf (L2.CX P w) P w K mg base N qual scope f cdv A outer s H E) (fun c d _ H => E c d H) body b) :
    Cal P w K mg base (k + 1) x ps (fun os g => bodyOut b N.length os g) := ⟨f, fd, fn_def Fd S b ok, hm, Fd.kp, hb⟩
/-- a method of the text -/
theorem calM_fn {P : Program} {w : World} {K : PySem.W.Frag} {mg : Str → Option Value} {base : Heap} {c m qual : Str} {params : Arguments} {body : List Stmt} {scope : Scope} {fd : FuncData} {N ps : List Str} {k : Nat} (Fd : FunD K m qual params body scope [] [] (He.ma K (He.ga K c) m) fd) (cl : Cls K (He.ga K c)) (mt : Meth K (He.ga K c) m (He.ma K (He.ga K c) m)) (hb : Binds K fd ps []) (S : FnScope N ps scope) (b : XS)
    (ok : ∀ (cdv : Value) (A : Around) (outer : List Env) (s : Shared) (H : Hp) (E : XK), Room k (A.deeper (envOfC qual scope s.heap.objs.size (He.ma K (He.ga K c) m) cdv)) → SSs (cxOf (L2.CX P w) P w K mg base N qual scope (He.ma K (He.ga K c) m) cdv A outer s H E) (fun c d _ H => E c d H) body b) :
    CalM P w K mg base (k + 1) c m ps (fun os g => bodyOut b N.length os g) := ⟨fd, fn_def Fd S b ok, cl, mt, hb⟩
theorem sp_law {K : PySem.W.Frag} {sem : FSem} {H : Hp} {a : Addr} {ns : List Int} {g' : List Cell} (hO : Only H) (hS : SqL K H a (ns.map V.int)) (e : sem [.obj 0] [.scr ns] = .ok (.d (.bool true)) g') : spOf K sem 1 [.ref a] H (fun v _ => v = .bl true) fun _ _ _ => False := by
  refine ⟨[.obj 0], [.scr ns], fun _ => False, [a], rfl, .cons (.obj rfl) .nil, ⟨⟨fun _ _ => False, fun _ _ => False, fun i o e => by simp at e, fun k c e => ?_, fun _ _ _ z => z.elim, fun _ _ _ z => z.elim, fun _ _ _ z => z.elim, fun _ _ z => z.elim, fun _ _ z => z.elim⟩, fun _ z => z.elim, rfl, rfl⟩, ?_⟩
  · cases k with
    | succ k => simp at e
    | zero =>
      have e : Cell.scr ns = c := by simpa using e
      subst e
      refine ⟨a, rfl, .scr ?_⟩
      rcases hS with (h | ⟨o, h⟩) | h
      · rcases hO a with q | ⟨o, xs, q⟩
        · rw [q] at h; cases h
        · rw [q] at h; cases h
      · exact .inl ⟨o, h⟩
      · exact .inr (.inr h)
  · rw [e]
    intro v H' μ' Fv F' _ ow _ _ _ _
    cases ow with
    | d r => cases r; rfl
/-- walk_ofE, where what a law may let out looks at the world -/
theorem walk_tr {l : PySem.W.OpenLaw} {n k : Nat} {q : Program} {loose : List Str} {XP : (Str → Option Value) → Heap → Prop} {YP : World → Heap → Prop} {d : DefRec} {x : Str}
    (hn : l.most = some n) (hn2 : n ≤ sizeLine) (hdf : d.params.defaults = []) (hr : Room k callerA)
    (F : ∀ (w : World) (mg : Str → Option Value) (fa : Addr) (h : Heap), YP w h → h.Ns mainGlobals mg → mg d.name = some (.ref fa) →
      ∃ (K : PySem.W.Frag) (fd : FuncData) (sem : FSem), K.In h ∧ (∀ (s : Shared) (u : Value), BindsTo s fd ⟨[u], []⟩ [(x, u)]) ∧
        (∀ ns : List Int, ns.length ≤ n → ∃ g', sem [.obj 0] [.scr ns] = .ok (.d (.bool true)) g') ∧
        ∀ base : Heap, K.In base → base.Ns mainGlobals mg → FnOk l.prog w K mg base (L2.CX l.prog w) k fa fd [x] (spOf K sem 1)) :
    PySem.W.WalkO q loose XP YP l.row.toRowW d [] (fun f vs => PySem.call f vs) := by
  refine Att.attach_call hn hdf fun w s₀ s₁ mg mb fa o pm cd doc a vs ns G Y ho hd hcd hmg hobj hints hlen hg => ?_
  obtain ⟨K, fd, sem, KX, hb, hsem, hF⟩ := F w mg fa _ Y G.T.g hmg
  obtain ⟨g', e⟩ := hsem ns hlen
  exact law_call KX G.T.g G.T.b G.T.builtins G.T.nolimit hg hobj hints (Nat.le_trans hlen hn2) hr hF hb (fun H hO hS => sp_law hO hS e) fun H e s' h => by
    obtain ⟨_, _, _, _, _, _, _, _, _, _, _, _, z⟩ := h
    exact z
end Tr
namespace Tr
open PySem PySem.Spec PyProof.Rows L2
/-! TrP: for the plain laws -/
@[simp] theorem bind_ok {α β : Type} {a : α} {st : St} {k : α → St → Out β} : bindO (.ok a st) k = k a st := rfl
@[simp] theorem bind_exc {α β : Type} {c : Str} {st : St} {k : α → St → Out β} : bindO (.exc c st) k = .exc c st := rfl
@[simp ↓] theorem bind_def {α β : Type} {m : Out α} {k : α → St → Out β} : bindO m k = match m with
  | .ok a st => k a st
  | .exc c st => .exc c st
  | .no => .no := by cases m <;> rfl
/-! data -/
@[simp] theorem shp_int (i : Int) : shp (.int i) = true := rfl
@[simp] theorem shp_bool (i : Bool) : shp (.bool i) = true := rfl
@[simp] theorem shp_none : shp .none = true := rfl
@[simp] theorem eqv_int (i j : Int) : PyData.eqv (.int i) (.int j) = decide (i = j) := by
  simp [PyData.eqv, Bool.beq_eq_decide_eq]
@[simp] theorem eqv_str (i j : Str) : PyData.eqv (.str i) (.str j) = decide (i = j) := by
  simp [PyData.eqv, Bool.beq_eq_decide_eq]
@[simp] theorem eqv_bool (i j : Bool) : PyData.eqv (.bool i) (.bool j) = decide (i = j) := by
  simp [PyData.eqv, Bool.beq_eq_decide_eq]
@[simp] theorem inD_nil (d : PyData) : inD d [] = false := rfl
theorem inD_cons (d e : PyData) (r : List PyData) : inD d (e :: r) = (PyData.eqv e d || inD d r) := rfl
@[simp] theorem inD_str (d e : Str) (r : List PyData) : inD (.str d) (.str e :: r) = (decide (d = e) || inD (.str d) r) := by
  rw [inD_cons, eqv_str, decide_eq_decide.mpr (eq_comm (a := e) (b := d))]
@[simp] theorem inD_int (d e : Int) (r : List PyData) : inD (.int d) (.int e :: r) = (decide (d = e) || inD (.int d) r) := by
  rw [inD_cons, eqv_int, decide_eq_decide.mpr (eq_comm (a := e) (b := d))]
@[simp] theorem inD_tup (d e : List PyData) (r : List PyData) : inD (.tuple d) (.tuple e :: r) = (PyData.eqvAll e d || inD (.tuple d) r) := by
  rw [inD_cons, PyData.eqv]
@[simp] theorem eqv_tup (d e : List PyData) : PyData.eqv (.tuple d) (.tuple e) = PyData.eqvAll d e := by rw [PyData.eqv]
@[simp] theorem eqv_lst (d e : List PyData) : PyData.eqv (.list d) (.list e) = PyData.eqvAll d e := by rw [PyData.eqv]
@[simp] theorem eqvAll_nil : PyData.eqvAll [] [] = true := rfl
@[simp] theorem eqvAll_cons (d e : PyData) (ds es : List PyData) : PyData.eqvAll (d :: ds) (e :: es) = (PyData.eqv d e && PyData.eqvAll ds es) := by rw [PyData.eqvAll]
@[simp] theorem eqvAll_nc (d : PyData) (ds : List PyData) : PyData.eqvAll [] (d :: ds) = false := by rw [PyData.eqvAll] <;> simp
@[simp] theorem eqvAll_cn (d : PyData) (ds : List PyData) : PyData.eqvAll (d :: ds) [] = false := by rw [PyData.eqvAll] <;> simp
def lay (n : Nat) (d : PyData) : Bool := d.canLay0 && decide (d.depth ≤ n)
def layL (n : Nat) (ds : List PyData) : Bool := PyData.canLayAll0 ds && decide (PyData.depthAll ds ≤ n)
@[simp] theorem layL_nil (n : Nat) : layL n [] = true := by simp [layL, PyData.canLayAll0, PyData.depthAll]
@[simp] theorem layL_cons (n : Nat) (d : PyData) (ds : List PyData) : layL n (d :: ds) = (lay n d && layL n ds) := by
  unfold lay layL
  rw [PyData.canLayAll0, PyData.depthAll]
  cases PyData.canLay0 d <;> cases PyData.canLayAll0 ds <;> simp [Nat.max_le]
@[simp] theorem lay_int (n : Nat) (i : Int) : lay n (.int i) = true := by simp [lay, PyData.canLay0, PyData.depth]
@[simp] theorem lay_bool (n : Nat) (i : Bool) : lay n (.bool i) = true := by simp [lay, PyData.canLay0, PyData.depth]
@[simp] theorem lay_none (n : Nat) : lay n .none = true := by simp [lay, PyData.canLay0, PyData.depth]
@[simp] theorem lay_str (n : Nat) (i : Str) : lay n (.str i) = shp (.str i) := by
  show (_ && _) = (_ && _)
  simp [PyData.depth]
@[simp] theorem lay_list (n : Nat) (ds : List PyData) : lay (n + 1) (.list ds) = layL n ds := by
  unfold lay layL
  rw [PyData.canLay0, PyData.depth]
  simp
@[simp] theorem lay_tuple (n : Nat) (ds : List PyData) : lay (n + 1) (.tuple ds) = layL n ds := by
  unfold lay layL
  rw [PyData.canLay0, PyData.depth]
  simp
@[simp] theorem shp_list (ds : List PyData) : shp (.list ds) = layL 63 ds := lay_list 63 ds
@[simp] theorem shp_tuple (ds : List PyData) : shp (.tuple ds) = layL 63 ds := lay_tuple 63 ds
theorem layL_all {n : Nat} {ds : List PyData} (h : ∀ d ∈ ds, lay n d = true) : layL n ds = true := by
  induction ds with
  | nil => simp
  | cons d ds ih => simp [h d List.mem_cons_self, ih fun e he => h e (List.mem_cons_of_mem _ he)]
@[simp] theorem layL_ints (n : Nat) (ns : List Int) : layL n (ns.map .int) = true := layL_all fun d h => by
  obtain ⟨i, _, rfl⟩ := List.mem_map.mp h
  simp
/-! evaluation -/
theorem map_toNat_inj : ∀ {a b : List Char}, a.map Char.toNat = b.map Char.toNat → a = b
  | [], [], _ => rfl
  | [], _ :: _, h => by simp at h
  | _ :: _, [], h => by simp at h
  | x :: a, y :: b, h => by
    simp only [List.map_cons, List.cons.injEq] at h
    have e : x = y := Char.ext (UInt32.toNat_inj.mp h.1)
    rw [e, map_toNat_inj h.2]
@[simp] theorem lit_inj (s t : String) : (Str.ofString s = Str.ofString t) = (s = t) := by
  apply propext
  constructor
  · intro h
    rw [Str.ofString_eq_toList, Str.ofString_eq_toList] at h
    have h1 : (s.toList.map Char.toNat).toArray = (t.toList.map Char.toNat).toArray := congrArg Str.cps h
    have h2 := map_toNat_inj (congrArg Array.toList h1)
    exact String.toList_inj.mp h2
  · intro h; rw [h]
/-! comprehensions of one name -/
section
variable {α : Type} {i : Nat} {fi : Tr.St → Out (List PyData)} {t : Tr.St → Out Bool} {f : XE} {enc : α → PyData} {P : α → Bool} {F : α → PyData}
theorem compM_of {L : List (Option O)} {g : List Cell} (hi : i < L.length) : ∀ (xs : List α) (acc : List PyData), (∀ x ∈ xs, t ⟨L.set i (some (.d (enc x))), g⟩ = .ok (P x) ⟨L.set i (some (.d (enc x))), g⟩) →
    (∀ x ∈ xs, P x = true → ∃ o, f ⟨L.set i (some (.d (enc x))), g⟩ = .ok o ⟨L.set i (some (.d (enc x))), g⟩ ∧ frz o = .d (F x)) → xs.length + acc.length ≤ 16000000 →
    compM [i] (gN i) t f (xs.map enc) acc ⟨L.set i none, g⟩ = .ok (acc ++ (xs.filter P).map F) ⟨L.set i none, g⟩
  | [], acc, _, _, _ => by simp [compM]
  | x :: xs, acc, ht, he, hs => by
    have hl : acc.length ≤ 16000000 := by simp at hs; omega
    have e1 := ht x List.mem_cons_self
    have e2 := he x List.mem_cons_self
    rw [List.map_cons, compM]
    have hi2 : i < (L.set i none).length := by rw [List.length_set]; exact hi
    have hg : gN i (.d (enc x)) ⟨L.set i none, g⟩ = some ⟨L.set i (some (.d (enc x))), g⟩ := by
      show (if i < (L.set i none).length then some (⟨(L.set i none).set i (some (.d (enc x))), g⟩ : Tr.St) else none) = _
      rw [if_pos hi2, List.set_set]
    dsimp only
    rw [hg]
    dsimp only
    rw [e1]
    have ih := fun acc h => compM_of hi xs acc (fun y hy => ht y (List.mem_cons_of_mem _ hy)) (fun y hy => he y (List.mem_cons_of_mem _ hy)) h
    cases hp : P x with
    | false =>
      show compM [i] (gN i) t f (xs.map enc) acc ⟨(L.set i (some (.d (enc x)))).set i none, g⟩ = _
      rw [List.set_set, ih acc (by simp at hs; omega), List.filter_cons_of_neg (by rw [hp]; simp)]
    | true =>
      obtain ⟨o, q1, q2⟩ := e2 hp
      show bindO (noX (f ⟨L.set i (some (.d (enc x))), g⟩)) _ = _
      rw [q1]
      show (match frz o with
        | .d y => if small acc.length then compM [i] (gN i) t f (xs.map enc) (acc ++ [y]) ⟨(L.set i (some (.d (enc x)))).set i none, g⟩ else .no
        | _ => .no) = _
      rw [q2]
      show (if small acc.length then compM [i] (gN i) t f (xs.map enc) (acc ++ [F x]) ⟨(L.set i (some (.d (enc x)))).set i none, g⟩ else .no) = _
      rw [if_pos (show small acc.length = true from decide_eq_true hl), List.set_set, ih _ (by simp at hs ⊢; omega), List.filter_cons_of_pos (by rw [hp])]
      simp
theorem xComp_of {st st1 : Tr.St} (xs : List α) (h1 : fi st = .ok (xs.map enc) st1) (ho : st1.loc[i]? = some none ∨ ∃ y, st1.loc[i]? = some (some (.d y)))
    (ht : ∀ x ∈ xs, t ⟨st1.loc.set i (some (.d (enc x))), st1.g⟩ = .ok (P x) ⟨st1.loc.set i (some (.d (enc x))), st1.g⟩)
    (he : ∀ x ∈ xs, P x = true → ∃ o, f ⟨st1.loc.set i (some (.d (enc x))), st1.g⟩ = .ok o ⟨st1.loc.set i (some (.d (enc x))), st1.g⟩ ∧ frz o = .d (F x)) (hs : xs.length ≤ 16000000) :
    xComp [i] fi (gN i) t f st = .ok (.lst ((xs.filter P).map F)) st1 := by
  have hi : i < st1.loc.length := by
    rcases ho with h | ⟨y, h⟩ <;> exact (List.getElem?_eq_some_iff.mp h).1
  unfold xComp
  rw [h1]
  show bindO (compM [i] (gN i) t f (xs.map enc) [] ⟨st1.loc.set i none, st1.g⟩) _ = _
  rw [compM_of hi xs [] ht he (by simpa using hs)]
  show Out.ok (O.lst ([] ++ (xs.filter P).map F)) (⟨backO [i] st1.loc (st1.loc.set i none), st1.g⟩ : Tr.St) = _
  have e : backO [i] st1.loc (st1.loc.set i none) = st1.loc := by
    have hb : ∀ z, (st1.loc.set i none).set i z = st1.loc.set i z := fun z => List.set_set ..
    rcases ho with h | ⟨y, h⟩
    · show (st1.loc.set i none).set i (match st1.loc[i]? with
        | some (some (.d x)) => some (.d x)
        | some (some (.obj k)) => some (.obj k)
        | _ => none) = _
      rw [h, hb]
      exact List.ext_getElem? fun j => by
        by_cases hj : i = j
        · subst hj; rw [List.getElem?_set_self hi, h]
        · rw [List.getElem?_set_ne hj]
    · show (st1.loc.set i none).set i (match st1.loc[i]? with
        | some (some (.d x)) => some (.d x)
        | some (some (.obj k)) => some (.obj k)
        | _ => none) = _
      rw [h, hb]
      exact List.ext_getElem? fun j => by
        by_cases hj : i = j
        · subst hj; rw [List.getElem?_set_self hi, h]
        · rw [List.getElem?_set_ne hj]
  rw [e]
  rfl
theorem xComp_all {st st1 : Tr.St} (xs : List α) (h1 : fi st = .ok (xs.map enc) st1) (ho : st1.loc[i]? = some none ∨ ∃ y, st1.loc[i]? = some (some (.d y)))
    (he : ∀ x ∈ xs, ∃ o, f ⟨st1.loc.set i (some (.d (enc x))), st1.g⟩ = .ok o ⟨st1.loc.set i (some (.d (enc x))), st1.g⟩ ∧ frz o = .d (F x)) (hs : xs.length ≤ 16000000) :
    xComp [i] fi (gN i) tYesO f st = .ok (.lst (xs.map F)) st1 := by
  have h := xComp_of (P := fun _ => true) (t := tYesO) xs h1 ho (fun _ _ => rfl) (fun x hx _ => he x hx) hs
  rw [h, List.filter_eq_self.mpr (fun _ _ => rfl)]
end
section
variable {α : Type} {i : Nat} {fi : Tr.St → Out (List PyData)} {f : XE} {enc : α → PyData} {Inv : List Cell → Prop} {R : PyData → Prop}
/-- elements that change the store -/
theorem compM_draw {L : List (Option O)} (hi : i < L.length) : ∀ (xs : List α) (acc : List PyData) (g : List Cell), Inv g → (∀ x ∈ xs, ∀ g, Inv g → ∃ o d g', f ⟨L.set i (some (.d (enc x))), g⟩ = .ok o ⟨L.set i (some (.d (enc x))), g'⟩ ∧ frz o = .d d ∧ R d ∧ Inv g') → xs.length + acc.length ≤ 16000000 →
    ∃ ds g', compM [i] (gN i) tYesO f (xs.map enc) acc ⟨L.set i none, g⟩ = .ok (acc ++ ds) ⟨L.set i none, g'⟩ ∧ Inv g' ∧ ds.length = xs.length ∧ ∀ d ∈ ds, R d
  | [], acc, g, hg, _, _ => ⟨[], g, by simp [compM], hg, rfl, by simp⟩
  | x :: xs, acc, g, hg, he, hs => by
    have hl : acc.length ≤ 16000000 := by simp at hs; omega
    obtain ⟨o, d, g1, q1, q2, q3, q4⟩ := he x List.mem_cons_self g hg
    obtain ⟨ds, g', r1, r2, r3, r4⟩ := compM_draw hi xs (acc ++ [d]) g1 q4 (fun y hy => he y (List.mem_cons_of_mem _ hy)) (by simp at hs ⊢; omega)
    refine ⟨d :: ds, g', ?_, r2, by simp [r3], fun y hy => ?_⟩
    · rw [List.map_cons, compM]
      have hg : gN i (.d (enc x)) ⟨L.set i none, g⟩ = some ⟨L.set i (some (.d (enc x))), g⟩ := by
        show (if i < (L.set i none).length then some (⟨(L.set i none).set i (some (.d (enc x))), g⟩ : Tr.St) else none) = _
        rw [if_pos (by rw [List.length_set]; exact hi), List.set_set]
      dsimp only
      rw [hg]
      show bindO (noX (f ⟨L.set i (some (.d (enc x))), g⟩)) _ = _
      rw [q1]
      show (match frz o with
        | .d y => if small acc.length then compM [i] (gN i) tYesO f (xs.map enc) (acc ++ [y]) ⟨(L.set i (some (.d (enc x)))).set i none, g1⟩ else .no
        | _ => .no) = _
      rw [q2]
      show (if small acc.length then compM [i] (gN i) tYesO f (xs.map enc) (acc ++ [d]) ⟨(L.set i (some (.d (enc x)))).set i none, g1⟩ else .no) = _
      rw [if_pos (show small acc.length = true from decide_eq_true hl), List.set_set, r1]
      simp
    · rcases List.mem_cons.mp hy with rfl | hy
      · exact q3
      · exact r4 y hy
theorem xComp_draw {st st1 : Tr.St} (xs : List α) (h1 : fi st = .ok (xs.map enc) st1) (ho : st1.loc[i]? = some none) (hg : Inv st1.g)
    (he : ∀ x ∈ xs, ∀ g, Inv g → ∃ o d g', f ⟨st1.loc.set i (some (.d (enc x))), g⟩ = .ok o ⟨st1.loc.set i (some (.d (enc x))), g'⟩ ∧ frz o = .d d ∧ R d ∧ Inv g') (hs : xs.length ≤ 16000000) :
    ∃ ds g', xComp [i] fi (gN i) tYesO f st = .ok (.lst ds) ⟨st1.loc, g'⟩ ∧ Inv g' ∧ ds.length = xs.length ∧ ∀ d ∈ ds, R d := by
  have hi : i < st1.loc.length := (List.getElem?_eq_some_iff.mp ho).1
  obtain ⟨ds, g', r1, r2, r3, r4⟩ := compM_draw (enc := enc) (Inv := Inv) (R := R) (f := f) hi xs [] st1.g hg he (by simpa using hs)
  refine ⟨ds, g', ?_, r2, r3, r4⟩
  unfold xComp
  rw [h1]
  show bindO (compM [i] (gN i) tYesO f (xs.map enc) [] ⟨st1.loc.set i none, st1.g⟩) _ = _
  rw [r1]
  show Out.ok (O.lst ([] ++ ds)) (⟨(st1.loc.set i none).set i (match st1.loc[i]? with
        | some (some (.d x)) => some (.d x)
        | some (some (.obj k)) => some (.obj k)
        | _ => none), g'⟩ : Tr.St) = _
  rw [ho, List.set_set]
  have e : st1.loc.set i none = st1.loc := List.ext_getElem? fun j => by
    by_cases hj : i = j
    · subst hj; rw [List.getElem?_set_self hi, ho]
    · rw [List.getElem?_set_ne hj]
  show Out.ok (O.lst ([] ++ ds)) (⟨st1.loc.set i none, g'⟩ : Tr.St) = _
  rw [e]
  rfl
end
/-! loops -/
theorem forM_nil {g : XG} {b : XS} {st : Tr.St} : forM g b [] st = .ok .next st := rfl
theorem forM_cons {g : XG} {b : XS} {d : PyData} {r : List PyData} {st st1 st2 : Tr.St} (h1 : g (.d d) st = some st1) (h2 : b st1 = .ok .next st2) : forM g b (d :: r) st = forM g b r st2 := by
  rw [forM]
  dsimp only
  rw [h1]
  show bindO (b st1) _ = _
  rw [h2]
  rfl
theorem forM_ret {g : XG} {b : XS} {d : PyData} {r : List PyData} {st st1 st2 : Tr.St} {o : O} (h1 : g (.d d) st = some st1) (h2 : b st1 = .ok (.ret o) st2) : forM g b (d :: r) st = .ok (.ret o) st2 := by
  rw [forM]
  dsimp only
  rw [h1]
  show bindO (b st1) _ = _
  rw [h2]
  rfl
theorem forM_brk {g : XG} {b : XS} {d : PyData} {r : List PyData} {st st1 st2 : Tr.St} (h1 : g (.d d) st = some st1) (h2 : b st1 = .ok .brk st2) : forM g b (d :: r) st = .ok .next st2 := by
  rw [forM]
  dsimp only
  rw [h1]
  show bindO (b st1) _ = _
  rw [h2]
  rfl
theorem sWhile_ret {n : Nat} {t : Tr.St → Out Bool} {b : XS} {st st1 st2 : Tr.St} {o : O} (h1 : t st = .ok true st1) (h2 : b st1 = .ok (.ret o) st2) : sWhile (n + 1) t b st = .ok (.ret o) st2 := by
  rw [sWhile]
  dsimp only
  rw [h1]
  show bindO (b st1) _ = _
  rw [h2]
  rfl
theorem layL_map {α : Type} {n : Nat} {f : α → PyData} {xs : List α} (h : ∀ x ∈ xs, lay n (f x) = true) : layL n (xs.map f) = true := layL_all fun d hd => by
  obtain ⟨x, hx, rfl⟩ := List.mem_map.mp hd
  exact h x hx
theorem sFor_eq {f : Tr.St → Out (List PyData)} {g : XG} {b : XS} {st st1 : Tr.St} {ds : List PyData} (h : f st = .ok ds st1) : sFor f g b st = forM g b ds st1 := by
  unfold sFor
  rw [h]
  rfl
theorem sWhile_t {n : Nat} {t : Tr.St → Out Bool} {b : XS} {st st1 st2 : Tr.St} (h1 : t st = .ok true st1) (h2 : b st1 = .ok .next st2) : sWhile (n + 1) t b st = sWhile n t b st2 := by
  rw [sWhile]
  dsimp only
  rw [h1]
  show bindO (b st1) _ = _
  rw [h2]
  rfl
theorem sWhile_f {n : Nat} {t : Tr.St → Out Bool} {b : XS} {st st1 : Tr.St} (h1 : t st = .ok false st1) : sWhile (n + 1) t b st = .ok .next st1 := by
  rw [sWhile]
  dsimp only
  rw [h1]
  rfl
/-! numbers in lists -/
@[simp] theorem ixN_zero (n : Nat) : ixN (n + 1) 0 = some 0 := by unfold ixN; rw [if_pos (by omega), if_pos (by omega)] <;> rfl
theorem atI_nat {α : Type} {xs : List α} {k : Nat} (h : k < xs.length) : atI xs (k : Int) = some xs[k] := by
  unfold atI ixN
  rw [if_pos (by omega), if_pos (by omega)]
  simp [h]
@[simp] theorem atI_cons0 {α : Type} (x : α) (xs : List α) : atI (x :: xs) 0 = some x := by
  have := atI_nat (xs := x :: xs) (k := 0) (by simp)
  simpa using this
theorem boolsD_map {α : Type} (f : α → Bool) : ∀ xs : List α, boolsD (xs.map fun x => .bool (f x)) = some (xs.map f)
  | [] => rfl
  | x :: xs => by
    show (boolsD (xs.map fun x => .bool (f x))).map (f x :: ·) = _
    rw [boolsD_map f xs]; rfl
@[simp] theorem kit_ii : kitB "int" "int" = some true := by decide +kernel
@[simp] theorem kit_ib : kitB "int" "bool" = some false := by decide +kernel
@[simp] theorem kit_is : kitB "int" "str" = some false := by decide +kernel
@[simp] theorem kit_il : kitB "int" "list" = some false := by decide +kernel
@[simp] theorem kit_it : kitB "int" "tuple" = some false := by decide +kernel
@[simp] theorem kit_bi : kitB "bool" "int" = some true := by decide +kernel
@[simp] theorem kit_bb : kitB "bool" "bool" = some true := by decide +kernel
@[simp] theorem kit_bs : kitB "bool" "str" = some false := by decide +kernel
@[simp] theorem kit_bl : kitB "bool" "list" = some false := by decide +kernel
@[simp] theorem kit_bt : kitB "bool" "tuple" = some false := by decide +kernel
@[simp] theorem kit_si : kitB "str" "int" = some false := by decide +kernel
@[simp] theorem kit_ss : kitB "str" "str" = some true := by decide +kernel
@[simp] theorem kit_sl : kitB "str" "list" = some false := by decide +kernel
@[simp] theorem kit_st : kitB "str" "tuple" = some false := by decide +kernel
@[simp] theorem kit_li : kitB "list" "int" = some false := by decide +kernel
@[simp] theorem kit_ls : kitB "list" "str" = some false := by decide +kernel
@[simp] theorem kit_ll : kitB "list" "list" = some true := by decide +kernel
@[simp] theorem kit_lt : kitB "list" "tuple" = some false := by decide +kernel
@[simp] theorem kit_ti : kitB "tuple" "int" = some false := by decide +kernel
@[simp] theorem kit_ts : kitB "tuple" "str" = some false := by decide +kernel
@[simp] theorem kit_tl : kitB "tuple" "list" = some false := by decide +kernel
@[simp] theorem kit_tt : kitB "tuple" "tuple" = some true := by decide +kernel
@[simp] theorem kit_ni : kitB "NoneType" "int" = some false := by decide +kernel
@[simp] theorem kit_ns : kitB "NoneType" "str" = some false := by decide +kernel
@[simp] theorem kit_nl : kitB "NoneType" "list" = some false := by decide +kernel
@[simp] theorem kit_nt : kitB "NoneType" "tuple" = some false := by decide +kernel
theorem sSeq_next {f g : XS} {st st1 : Tr.St} (h : f st = .ok .next st1) : sSeq f g st = g st1 := by
  show bindO (f st) _ = _
  rw [h]
  rfl
@[simp] theorem eqvAll_ints : ∀ xs ys : List Int, PyData.eqvAll (xs.map .int) (ys.map .int) = decide (xs = ys)
  | [], [] => by simp
  | [], _ :: _ => by simp
  | _ :: _, [] => by simp
  | x :: xs, y :: ys => by
    rw [List.map_cons, List.map_cons, eqvAll_cons, eqv_int, eqvAll_ints xs ys]
    by_cases h : x = y <;> simp [h]
theorem atI_mid {α : Type} (xs : List α) (x : α) (r : List α) {k : Int} (h : k = xs.length) : atI (xs ++ x :: r) k = some x := by
  subst h
  rw [atI_nat (by simp)]
  simp
def natsD (ns : List Nat) : List PyData := ns.map fun (i : Nat) => PyData.int (i : Int)
theorem rangeL_succ (a : Int) (n : Nat) : rangeL a 1 (n + 1) = .int a :: rangeL (a + 1) 1 n := by
  unfold rangeL
  rw [List.range_succ_eq_map, List.map_cons, List.map_map]
  refine congr (congrArg List.cons (by simp)) (List.map_congr_left fun k _ => ?_)
  show PyData.int _ = PyData.int _
  congr 1
  simp only [Nat.succ_eq_add_one, Int.natCast_add]
  omega
theorem rangeL_one (n : Nat) : rangeL 0 1 n = natsD (List.range' 0 n) := by
  unfold rangeL natsD
  rw [List.range_eq_range']
  simp
theorem eqvAll_self {n : Nat} {ds : List PyData} (h : layL n ds = true) : PyData.eqvAll ds ds = true := SeqAt.eqvAll_refl ds (Bool.and_eq_true_iff.mp h).1
theorem sSeq_ret {f g : XS} {st st1 : Tr.St} {o : O} (h : f st = .ok (.ret o) st1) : sSeq f g st = .ok (.ret o) st1 := by
  show bindO (f st) _ = _
  rw [h]
  rfl
/-- a loop that ends at the first hit -/
theorem forM_find {α : Type} {i : Nat} {b : XS} {enc : α → PyData} {P : α → Bool} {R : α → O} {L : List (Option O)} {G : List Cell} (hi : i < L.length) : ∀ (xs : List α) (o : Option O),
    (∀ x ∈ xs, (P x = true → ∃ st : Tr.St, st.g = G ∧ b ⟨L.set i (some (.d (enc x))), G⟩ = .ok (.ret (R x)) st) ∧ (P x = false → b ⟨L.set i (some (.d (enc x))), G⟩ = .ok .next ⟨L.set i (some (.d (enc x))), G⟩)) →
    (∃ x st, xs.find? P = some x ∧ st.g = G ∧ Tr.forM (gN i) b (xs.map enc) ⟨L.set i o, G⟩ = .ok (.ret (R x)) st) ∨ (xs.find? P = none ∧ ∃ o', Tr.forM (gN i) b (xs.map enc) ⟨L.set i o, G⟩ = .ok .next ⟨L.set i o', G⟩)
  | [], o, _ => .inr ⟨rfl, o, rfl⟩
  | x :: xs, o, h => by
    have hg : gN i (.d (enc x)) ⟨L.set i o, G⟩ = some ⟨L.set i (some (.d (enc x))), G⟩ := by
      show (if i < (L.set i o).length then some (⟨(L.set i o).set i (some (.d (enc x))), G⟩ : Tr.St) else none) = _
      rw [if_pos (by rw [List.length_set]; exact hi), List.set_set]
    obtain ⟨h1, h2⟩ := h x List.mem_cons_self
    cases hp : P x with
    | true =>
      obtain ⟨st, e1, e2⟩ := h1 hp
      refine .inl ⟨x, st, by rw [List.find?_cons_of_pos hp], e1, ?_⟩
      rw [List.map_cons, Tr.forM]
      dsimp only
      rw [hg]
      show bindO (b ⟨L.set i (some (.d (enc x))), G⟩) _ = _
      rw [e2]
      rfl
    | false =>
      rw [List.map_cons, forM_cons hg (h2 hp), List.find?_cons_of_neg (by rw [hp]; simp)]
      exact forM_find hi xs _ fun y hy => h y (List.mem_cons_of_mem _ hy)
theorem rangeL_int (a : Int) (n : Nat) : rangeL a 1 n = ((List.range n).map fun (k : Nat) => a + (k : Int)).map PyData.int := by
  unfold rangeL
  rw [List.map_map]
  exact List.map_congr_left fun k _ => by simp
/-! a def's end -/
theorem body_ret {b : XS} {n : Nat} {os : List O} {g : List Cell} {o : O} {st : Tr.St} (e : b ⟨os.map some ++ List.replicate (n - os.length) none, g⟩ = .ok (.ret o) st) : bodyOut b n os g = .ok o st.g := by
  unfold bodyOut
  rw [e]
/-! typed things in lists -/
section
variable {α : Type} [DecidableEq α] {enc : α → PyData} (he : ∀ x y, PyData.eqv (enc x) (enc y) = decide (x = y))
include he
theorem eqvAll_map : ∀ xs ys : List α, PyData.eqvAll (xs.map enc) (ys.map enc) = decide (xs = ys)
  | [], [] => by simp
  | [], _ :: _ => by simp
  | _ :: _, [] => by simp
  | x :: xs, y :: ys => by
    rw [List.map_cons, List.map_cons, eqvAll_cons, he, eqvAll_map xs ys]
    simp only [List.cons.injEq, Bool.decide_and]
theorem inD_map (x : α) : ∀ xs : List α, inD (enc x) (xs.map enc) = decide (x ∈ xs)
  | [] => by simp
  | y :: ys => by
    rw [List.map_cons, inD_cons, he, inD_map x ys]
    by_cases c : y = x
    · subst c; simp
    · have : x ≠ y := fun e => c e.symm
      simp [c, this]
end
/-! dicts with typed keys -/
section
variable {α β : Type} [DecidableEq α] {enc : α → PyData} {encv : β → PyData}
def dD (enc : α → PyData) (encv : β → PyData) (l : List (α × β)) : List (PyData × PyData) := l.map fun p => (enc p.1, encv p.2)
theorem dD_ok (hk : ∀ x, keyT (enc x) = true) (l : List (α × β)) (x : α) : kOk (dD enc encv l) (enc x) = true := by
  unfold kOk
  rw [hk, Bool.true_and, Bool.or_eq_true]
  right
  rw [List.all_eq_true]
  intro e h
  obtain ⟨q, _, rfl⟩ := List.mem_map.mp h
  exact hk q.1
theorem dD_okK (hk : ∀ x, keyK (enc x) = true) (l : List (α × β)) (x : α) : kOk (dD enc encv l) (enc x) = true := by
  unfold kOk
  rw [hk, Bool.true_and, Bool.or_eq_true]
  left
  rw [List.all_eq_true]
  intro e h
  obtain ⟨q, _, rfl⟩ := List.mem_map.mp h
  exact hk q.1
theorem dD_len (l : List (α × β)) : (dD enc encv l).length = l.length := List.length_map ..
variable (he : ∀ x y, PyData.eqv (enc x) (enc y) = decide (x = y))
include he
theorem dD_get (l : List (α × β)) (x : α) : dGet (dD enc encv l) (enc x) = (l.find? fun p => decide (p.1 = x)).map fun p => encv p.2 := by
  induction l with
  | nil => rfl
  | cons p l ih =>
    rw [show dD enc encv (p :: l) = (enc p.1, encv p.2) :: dD enc encv l from rfl, dGet, he, ih]
    by_cases c : p.1 = x
    · rw [if_pos (decide_eq_true c), List.find?_cons_of_pos (by simpa using c)]; rfl
    · rw [if_neg (by simpa using c), List.find?_cons_of_neg (by simpa using c)]
theorem dD_has (l : List (α × β)) (x : α) : dHas (dD enc encv l) (enc x) = decide (x ∈ l.map (·.1)) := by
  induction l with
  | nil => rfl
  | cons p l ih =>
    unfold dHas at ih ⊢
    rw [show dD enc encv (p :: l) = (enc p.1, encv p.2) :: dD enc encv l from rfl, List.any_cons, ih, he]
    by_cases c : p.1 = x
    · subst c; simp
    · have : ¬ x = p.1 := fun e => c e.symm
      simp [c, this]
theorem dD_new (l : List (α × β)) (x : α) (y : β) (h : x ∉ l.map (·.1)) : dPut (dD enc encv l) (enc x) (encv y) = dD enc encv (l ++ [(x, y)]) := by
  unfold dPut
  rw [dD_has he, decide_eq_false h]
  simp [dD]
theorem dD_old (l : List (α × β)) (x : α) (y : β) (h : x ∈ l.map (·.1)) : dPut (dD enc encv l) (enc x) (encv y) = dD enc encv (l.map fun p => if p.1 = x then (p.1, y) else p) := by
  unfold dPut
  rw [dD_has he, decide_eq_true h, if_pos rfl]
  unfold dD
  rw [List.map_map, List.map_map]
  refine List.map_congr_left fun p _ => ?_
  show (if PyData.eqv (enc p.1) (enc x) = true then _ else _) = _
  rw [he]
  by_cases c : p.1 = x
  · rw [if_pos (decide_eq_true c)]; simp [c]
  · rw [if_neg (by simpa using c)]; simp [c]
end
theorem choose_map {β : Type} {enc : β → PyData} {R : β → Prop} : ∀ {ds : List PyData}, (∀ d ∈ ds, ∃ b, d = enc b ∧ R b) → ∃ bs : List β, ds = bs.map enc ∧ ∀ b ∈ bs, R b
  | [], _ => ⟨[], rfl, fun _ h => nomatch h⟩
  | d :: ds, h => by
    obtain ⟨b, h1, h2⟩ := h d List.mem_cons_self
    obtain ⟨bs, h3, h4⟩ := choose_map fun e he => h e (List.mem_cons_of_mem _ he)
    exact ⟨b :: bs, by rw [h1, h3]; rfl, fun x hx => (List.mem_cons.mp hx).elim (fun e => e ▸ h2) (h4 x)⟩
end Tr
namespace Lw
open PySem PySem.Spec PyProof.Rows L2 Tr
def top (i : Nat) : Stmt := PySem.Challenge.pw_carriedrests_k14_whole_desks.main.body.getD i (.Pass ⟨0, 0, 0, 0⟩)
def k_START : PyData := .tuple [.int 0, .int 0, .int 0]
def k_WIDEST : PyData := .int 4
def k_MOST_ROW : PyData := .int 30
def k_STEPS : PyData := .tuple [.tuple [.int 2, .int 1], .tuple [.int 3, .int 1], .tuple [.int 4, .int 1], .tuple [.int 4, .int 2], .tuple [.int 6, .int 1], .tuple [.int 6, .int 2], .tuple [.int 6, .int 3]]
def k_MODES : PyData := .tuple [.str "down", .str "up", .str "in", .str "out", .str "neardown", .str "nearup", .str "nearin", .str "nearout", .str "neareven", .str "nearodd"]
def k_CARRIES : PyData := .tuple [.str "none", .str "all", .str "signs", .str "pairs"]
def k_MOST_TAKEN : PyData := .int 100
def sub_RestError : List (Str × Bool) := [("RestError", true), ("BadWay", true), ("BadRow", true), ("BadWritten", true), ("BadNumber", true), ("BadText", true), ("NotFound", true)]
def sub_BadWay : List (Str × Bool) := [("RestError", false), ("BadWay", true), ("BadRow", false), ("BadWritten", false), ("BadNumber", false), ("BadText", false), ("NotFound", false)]
def sub_BadRow : List (Str × Bool) := [("RestError", false), ("BadWay", false), ("BadRow", true), ("BadWritten", false), ("BadNumber", false), ("BadText", false), ("NotFound", false)]
def sub_BadWritten : List (Str × Bool) := [("RestError", false), ("BadWay", false), ("BadRow", false), ("BadWritten", true), ("BadNumber", false), ("BadText", false), ("NotFound", false)]
def sub_BadNumber : List (Str × Bool) := [("RestError", false), ("BadWay", false), ("BadRow", false), ("BadWritten", false), ("BadNumber", true), ("BadText", false), ("NotFound", false)]
def sub_BadText : List (Str × Bool) := [("RestError", false), ("BadWay", false), ("BadRow", false), ("BadWritten", false), ("BadNumber", false), ("BadText", true), ("NotFound", false)]
def sub_NotFound : List (Str × Bool) := [("RestError", false), ("BadWay", false), ("BadRow", false), ("BadWritten", false), ("BadNumber", false), ("BadText", false), ("NotFound", true)]
def sub_ValueError : List (Str × Bool) := [("RestError", true), ("BadWay", true), ("BadRow", true), ("BadWritten", true), ("BadNumber", true), ("BadText", true), ("NotFound", true)]
@[simp] theorem lit_0 : shp (.str "down") = true := by decide +kernel
@[simp] theorem lit_1 : shp (.str "up") = true := by decide +kernel
@[simp] theorem lit_2 : shp (.str "in") = true := by decide +kernel
@[simp] theorem lit_3 : shp (.str "out") = true := by decide +kernel
@[simp] theorem lit_4 : shp (.str "neardown") = true := by decide +kernel
@[simp] theorem lit_5 : shp (.str "nearup") = true := by decide +kernel
@[simp] theorem lit_6 : shp (.str "nearin") = true := by decide +kernel
@[simp] theorem lit_7 : shp (.str "nearout") = true := by decide +kernel
@[simp] theorem lit_8 : shp (.str "neareven") = true := by decide +kernel
@[simp] theorem lit_9 : shp (.str "nearodd") = true := by decide +kernel
@[simp] theorem lit_10 : shp (.str "none") = true := by decide +kernel
@[simp] theorem lit_11 : shp (.str "all") = true := by decide +kernel
@[simp] theorem lit_12 : shp (.str "signs") = true := by decide +kernel
@[simp] theorem lit_13 : shp (.str "pairs") = true := by decide +kernel
@[simp] theorem lit_14 : shp (.str "odd") = true := by decide +kernel
@[simp] theorem lit_15 : shp (.str "not a number") = true := by decide +kernel
@[simp] theorem lit_16 : shp (.str "not a row") = true := by decide +kernel
@[simp] theorem lit_17 : shp (.str "not a way") = true := by decide +kernel
@[simp] theorem lit_18 : shp (.str "way") = true := by decide +kernel
@[simp] theorem lit_19 : shp (.str "row") = true := by decide +kernel
@[simp] theorem lit_20 : shp (.str "written") = true := by decide +kernel
@[simp] theorem lit_21 : shp (.str "number") = true := by decide +kernel
@[simp] theorem lit_22 : shp (.str "text") = true := by decide +kernel
@[simp] theorem lit_23 : shp (.str "told") = true := by decide +kernel
@[simp] theorem lit_24 : shp (.str "error") = true := by decide +kernel
@[simp] theorem lit_25 : shp (.str "no numbers") = true := by decide +kernel
@[simp] theorem lit_26 : shp (.str "1") = true := by decide +kernel
abbrev P_is_int : List Str := ["value", "low", "high"]
abbrev P_nearer : List Str := ["low", "high", "mode", "step"]
abbrev P_brought_to : List Str := ["value", "step", "mode"]
abbrev P_bring : List Str := ["way", "value"]
abbrev P_write : List Str := ["way", "state", "number"]
abbrev P_is_number : List Str := ["value"]
abbrev P_check_number : List Str := ["value"]
abbrev P_is_row : List Str := ["value"]
abbrev P_check_row : List Str := ["value"]
abbrev P_is_word : List Str := ["value", "words"]
abbrev P_is_way : List Str := ["value"]
abbrev P_check_way : List Str := ["value"]
abbrev P_run : List Str := ["way", "row"]
abbrev P_written : List Str := ["way", "row"]
abbrev P__law_start : List Str := ["_law_script"]
abbrev P__law_draw : List Str := ["_law_draws", "_law_limit"]
abbrev P__law_pick : List Str := ["_law_draws", "_law_choices"]
abbrev P__law_error : List Str := ["_law_caught"]
abbrev P__law_steps : List Str := []
abbrev P__law_modes : List Str := []
abbrev P__law_way : List Str := ["_law_draws"]
abbrev P__law_at : List Str := ["_law_value", "_law_step", "_law_mode"]
abbrev P__law_bring : List Str := ["_law_way_here", "_law_value"]
abbrev P__law_write : List Str := ["_law_way_here", "_law_state", "_law_number"]
abbrev P__law_run : List Str := ["_law_way_here", "_law_row"]
abbrev P__law_call : List Str := ["_law_shown", "_law_kind", "_law_thing"]
abbrev P_law : List Str := ["_law_script"]
abbrev P_Desk___init__ : List Str := ["self", "way"]
abbrev P_Desk___len__ : List Str := ["self"]
abbrev P_Desk_put : List Str := ["self", "number"]
abbrev P_Desk_state : List Str := ["self"]
abbrev P_Desk_numbers : List Str := ["self"]
abbrev P_Desk_lines : List Str := ["self"]
abbrev P_Desk_undo : List Str := ["self"]
/-! is_int -/
abbrev N_is_int : List Str := ["value", "low", "high"]
abbrev T_is_int : Stmt := top 8
theorem S_is_int : FnScope N_is_int P_is_int (defScope T_is_int) := ⟨rfl, rfl, rfl, by decide +kernel, rfl, by decide +kernel, by decide +kernel⟩
def b_is_int (n : Nat) : XS := (sRet (xAnd (xIsi "int" (xVar 0)) (xAnd (xNot (xIsi "bool" (xVar 0))) (xChain oLe oLe (xVar 1) (xVar 0) (xVar 2)))))
theorem d_is_int {P : Program} {w : World} {K : PySem.W.Frag} {mg : Str → Option Value} {base : Heap} {k : Nat} {f : Addr} (z_isinstance : mg "isinstance" = none) (z_int : mg "int" = none) (z_bool : mg "bool" = none) (n : Nat) (cdv : Value) (A : Around) (outer : List Env) (s : Shared) (H : Hp) (E : XK) (hr : Room k (A.deeper (envOfC "is_int" (defScope T_is_int) s.heap.objs.size f cdv))) : SSs (cxOf (L2.CX P w) P w K mg base N_is_int "is_int" (defScope T_is_int) f cdv A outer s H E) (fun c d _ H => E c d H) (defBody T_is_int) (b_is_int n) := by
  have tk : Takes (cxOf (L2.CX P w) P w K mg base N_is_int "is_int" (defScope T_is_int) f cdv A outer s H E) (fun c d _ H => E c d H) := takes_of rfl rfl rfl rfl
  have pso : PassesOwn (model P w) (cxOf (L2.CX P w) P w K mg base N_is_int "is_int" (defScope T_is_int) f cdv A outer s H E).A (cxOf (L2.CX P w) P w K mg base N_is_int "is_int" (defScope T_is_int) f cdv A outer s H E).env (cxOf (L2.CX P w) P w K mg base N_is_int "is_int" (defScope T_is_int) f cdv A outer s H E).xe := passes_of rfl
  have nd := S_is_int.nd
  exact (sss_one (ss_ret (se_and (se_isi (T := "int") (ev 0) z_isinstance z_int rfl) (se_and (se_not (se_isi (T := "bool") (ev 0) z_isinstance z_bool rfl)) (se_one (echain 0 (cr_le) (cr_le) (ev 1) (ev 0) (ev 2)))))))
theorem a_is_int {K : PySem.W.Frag} {f : Addr} {fd : FuncData} (F : FunD K "is_int" "is_int" (defArgs T_is_int) (defBody T_is_int) (defScope T_is_int) [] [] f fd) : Binds K fd P_is_int [] := F.bindsN fun _ _ _ _ _ _ us hl => match us, hl with | [_, _, _], _ => rfl
/-! nearer -/
abbrev N_nearer : List Str := ["low", "high", "mode", "step", "even", "odd", "inner", "outer"]
abbrev T_nearer : Stmt := top 11
theorem S_nearer : FnScope N_nearer P_nearer (defScope T_nearer) := ⟨rfl, rfl, rfl, by decide +kernel, rfl, by decide +kernel, by decide +kernel⟩
def b_nearer (n : Nat) : XS := (sSeq (sIf (tVal (xOp2v oEq 2 (xC (.str "neardown")))) (sRetV 0) sNext) (sSeq (sIf (tVal (xOp2v oEq 2 (xC (.str "nearup")))) (sRetV 1) sNext) (sSeq (sIf (tVal (xOp2v oIn 2 (xTup (aCons (xC (.str "neareven")) (aCons (xC (.str "nearodd")) aNil))))) (sSeq (sAsg (xIf (tVal (xOp2 oEq (xOp2 oMod (xOp2 oDiv (xVar 0) (xVar 3)) (xC (.int 2))) (xC (.int 0)))) (xVar 0) (xVar 1)) (gN 4)) (sSeq (sAsg (xIf (tVal (xOp2v oEq 4 (xVar 0))) (xVar 1) (xVar 0)) (gN 5)) (sRet (xIf (tVal (xOp2v oEq 2 (xC (.str "neareven")))) (xVar 4) (xVar 5))))) sNext) (sSeq (sAsg (xIf (tVal (xOp2v oGe 0 (xC (.int 0)))) (xVar 0) (xVar 1)) (gN 6)) (sSeq (sAsg (xIf (tVal (xOp2v oGe 0 (xC (.int 0)))) (xVar 1) (xVar 0)) (gN 7)) (sRet (xIf (tVal (xOp2v oEq 2 (xC (.str "nearin")))) (xVar 6) (xVar 7))))))))
theorem d_nearer {P : Program} {w : World} {K : PySem.W.Frag} {mg : Str → Option Value} {base : Heap} {k : Nat} {f : Addr} (n : Nat) (cdv : Value) (A : Around) (outer : List Env) (s : Shared) (H : Hp) (E : XK) (hr : Room k (A.deeper (envOfC "nearer" (defScope T_nearer) s.heap.objs.size f cdv))) : SSs (cxOf (L2.CX P w) P w K mg base N_nearer "nearer" (defScope T_nearer) f cdv A outer s H E) (fun c d _ H => E c d H) (defBody T_nearer) (b_nearer n) := by
  have tk : Takes (cxOf (L2.CX P w) P w K mg base N_nearer "nearer" (defScope T_nearer) f cdv A outer s H E) (fun c d _ H => E c d H) := takes_of rfl rfl rfl rfl
  have pso : PassesOwn (model P w) (cxOf (L2.CX P w) P w K mg base N_nearer "nearer" (defScope T_nearer) f cdv A outer s H E).A (cxOf (L2.CX P w) P w K mg base N_nearer "nearer" (defScope T_nearer) f cdv A outer s H E).env (cxOf (L2.CX P w) P w K mg base N_nearer "nearer" (defScope T_nearer) f cdv A outer s H E).xe := passes_of rfl
  have nd := S_nearer.nd
  have hu : (A.deeper (envOfC "nearer" (defScope T_nearer) s.heap.objs.size f cdv)).units + 65 < cLine := hu65 hr
  exact (sss_cons (ss_if (tcmpv 2 (cr_eq hr.units) (pv 2) se_str) (sss_one (ss_retv 0 (pv 0))) sss_nil) (sss_cons (ss_if (tcmpv 2 (cr_eq hr.units) (pv 2) se_str) (sss_one (ss_retv 1 (pv 1))) sss_nil) (sss_cons (ss_if (tcmpv 2 (cr_in hu) (pv 2) (se_tup (sa_cons se_str (sa_cons se_str sa_nil)))) (sss_cons (sset 4 nd (se_if (tcmp (cr_eq hr.units) (emod (ediv (ev 0) (ev 3)) se_int) se_int) (ev 0) (ev 1))) (sss_cons (sset 5 nd (se_if (tcmpv 4 (cr_eq hr.units) (pv 4) (ev 0)) (ev 1) (ev 0))) (sss_one (ss_ret (se_if (tcmpv 2 (cr_eq hr.units) (pv 2) se_str) (ev 4) (ev 5)))))) sss_nil) (sss_cons (sset 6 nd (se_if (tcmpv 0 (cr_ge) (pv 0) se_int) (ev 0) (ev 1))) (sss_cons (sset 7 nd (se_if (tcmpv 0 (cr_ge) (pv 0) se_int) (ev 1) (ev 0))) (sss_one (ss_ret (se_if (tcmpv 2 (cr_eq hr.units) (pv 2) se_str) (ev 6) (ev 7)))))))))
theorem a_nearer {K : PySem.W.Frag} {f : Addr} {fd : FuncData} (F : FunD K "nearer" "nearer" (defArgs T_nearer) (defBody T_nearer) (defScope T_nearer) [] [] f fd) : Binds K fd P_nearer [] := F.bindsN fun _ _ _ _ _ _ us hl => match us, hl with | [_, _, _, _], _ => rfl
/-! brought_to -/
abbrev N_brought_to : List Str := ["value", "step", "mode", "low", "high"]
abbrev T_brought_to : Stmt := top 12
theorem S_brought_to : FnScope N_brought_to P_brought_to (defScope T_brought_to) := ⟨rfl, rfl, rfl, by decide +kernel, rfl, by decide +kernel, by decide +kernel⟩
def b_brought_to (s_nearer : FSem) (n : Nat) : XS := (sSeq (sAsg (xOp2 oMul (xOp2 oDiv (xVar 0) (xVar 1)) (xVar 1)) (gN 3)) (sSeq (sAsg (xIf (tVal (xOp2v oEq 3 (xVar 0))) (xVar 3) (xOp2 oAdd (xVar 3) (xVar 1))) (gN 4)) (sSeq (sIf (tVal (xOp2v oEq 2 (xC (.str "down")))) (sRetV 3) sNext) (sSeq (sIf (tVal (xOp2v oEq 2 (xC (.str "up")))) (sRetV 4) sNext) (sSeq (sIf (tVal (xOp2v oIn 2 (xTup (aCons (xC (.str "in")) (aCons (xC (.str "out")) aNil))))) (sRet (xIf (tVal (xOp2 oEq (xOp2v oGe 0 (xC (.int 0))) (xOp2v oEq 2 (xC (.str "in"))))) (xVar 3) (xVar 4))) sNext) (sSeq (sIf (tVal (xOp2 oNe (xOp2 oSub (xVar 0) (xVar 3)) (xOp2 oSub (xVar 4) (xVar 0)))) (sRet (xIf (tVal (xOp2 oLt (xOp2 oSub (xVar 0) (xVar 3)) (xOp2 oSub (xVar 4) (xVar 0)))) (xVar 3) (xVar 4))) sNext) (sRet (xIf (tVal (xOp2v oNe 3 (xVar 4))) (xCall 4 s_nearer (aCons (xVar 3) (aCons (xVar 4) (aCons (xVar 2) (aCons (xVar 1) aNil))))) (xVar 3)))))))))
theorem d_brought_to {P : Program} {w : World} {K : PySem.W.Frag} {mg : Str → Option Value} {base : Heap} {k : Nat} {f : Addr} {s_nearer : FSem} (c_nearer : Cal P w K mg base k "nearer" P_nearer s_nearer) (n : Nat) (cdv : Value) (A : Around) (outer : List Env) (s : Shared) (H : Hp) (E : XK) (hr : Room k (A.deeper (envOfC "brought_to" (defScope T_brought_to) s.heap.objs.size f cdv))) : SSs (cxOf (L2.CX P w) P w K mg base N_brought_to "brought_to" (defScope T_brought_to) f cdv A outer s H E) (fun c d _ H => E c d H) (defBody T_brought_to) (b_brought_to s_nearer n) := by
  have tk : Takes (cxOf (L2.CX P w) P w K mg base N_brought_to "brought_to" (defScope T_brought_to) f cdv A outer s H E) (fun c d _ H => E c d H) := takes_of rfl rfl rfl rfl
  have pso : PassesOwn (model P w) (cxOf (L2.CX P w) P w K mg base N_brought_to "brought_to" (defScope T_brought_to) f cdv A outer s H E).A (cxOf (L2.CX P w) P w K mg base N_brought_to "brought_to" (defScope T_brought_to) f cdv A outer s H E).env (cxOf (L2.CX P w) P w K mg base N_brought_to "brought_to" (defScope T_brought_to) f cdv A outer s H E).xe := passes_of rfl
  have nd := S_brought_to.nd
  have hu : (A.deeper (envOfC "brought_to" (defScope T_brought_to) s.heap.objs.size f cdv)).units + 65 < cLine := hu65 hr
  exact (sss_cons (sset 3 nd (emul (ediv (ev 0) (ev 1)) (ev 1))) (sss_cons (sset 4 nd (se_if (tcmpv 3 (cr_eq hr.units) (pv 3) (ev 0)) (ev 3) (eadd (ev 3) (ev 1)))) (sss_cons (ss_if (tcmpv 2 (cr_eq hr.units) (pv 2) se_str) (sss_one (ss_retv 3 (pv 3))) sss_nil) (sss_cons (ss_if (tcmpv 2 (cr_eq hr.units) (pv 2) se_str) (sss_one (ss_retv 4 (pv 4))) sss_nil) (sss_cons (ss_if (tcmpv 2 (cr_in hu) (pv 2) (se_tup (sa_cons se_str (sa_cons se_str sa_nil)))) (sss_one (ss_ret (se_if (tcmp (cr_eq hr.units) (ecmpv 0 (cr_ge) (pv 0) se_int) (ecmpv 2 (cr_eq hr.units) (pv 2) se_str)) (ev 3) (ev 4)))) sss_nil) (sss_cons (ss_if (tcmp (cr_ne hr.units) (esub (ev 0) (ev 3)) (esub (ev 4) (ev 0))) (sss_one (ss_ret (se_if (tcmp (cr_lt) (esub (ev 0) (ev 3)) (esub (ev 4) (ev 0))) (ev 3) (ev 4)))) sss_nil) (sss_one (ss_ret (se_if (tcmpv 3 (cr_ne hr.units) (pv 3) (ev 4)) (se_call c_nearer tk hr (sa_cons (ev 3) (sa_cons (ev 4) (sa_cons (ev 2) (sa_cons (ev 1) sa_nil))))) (ev 3))))))))))
theorem a_brought_to {K : PySem.W.Frag} {f : Addr} {fd : FuncData} (F : FunD K "brought_to" "brought_to" (defArgs T_brought_to) (defBody T_brought_to) (defScope T_brought_to) [] [] f fd) : Binds K fd P_brought_to [] := F.bindsN fun _ _ _ _ _ _ us hl => match us, hl with | [_, _, _], _ => rfl
/-! bring -/
abbrev N_bring : List Str := ["way", "value", "step", "finer", "mode", "carry"]
abbrev T_bring : Stmt := top 13
theorem S_bring : FnScope N_bring P_bring (defScope T_bring) := ⟨rfl, rfl, rfl, by decide +kernel, rfl, by decide +kernel, by decide +kernel⟩
def b_bring (s_brought_to : FSem) (n : Nat) : XS := (sSeq (sAsg (xVar 0) (gTu 4 (gsCons (gN 2) (gsCons (gN 3) (gsCons (gN 4) (gsCons (gN 5) gsNil)))))) (sRet (xCall 3 s_brought_to (aCons (xCall 3 s_brought_to (aCons (xVar 1) (aCons (xVar 3) (aCons (xVar 4) aNil)))) (aCons (xVar 2) (aCons (xVar 4) aNil))))))
theorem d_bring {P : Program} {w : World} {K : PySem.W.Frag} {mg : Str → Option Value} {base : Heap} {k : Nat} {f : Addr} {s_brought_to : FSem} (c_brought_to : Cal P w K mg base k "brought_to" P_brought_to s_brought_to) (n : Nat) (cdv : Value) (A : Around) (outer : List Env) (s : Shared) (H : Hp) (E : XK) (hr : Room k (A.deeper (envOfC "bring" (defScope T_bring) s.heap.objs.size f cdv))) : SSs (cxOf (L2.CX P w) P w K mg base N_bring "bring" (defScope T_bring) f cdv A outer s H E) (fun c d _ H => E c d H) (defBody T_bring) (b_bring s_brought_to n) := by
  have tk : Takes (cxOf (L2.CX P w) P w K mg base N_bring "bring" (defScope T_bring) f cdv A outer s H E) (fun c d _ H => E c d H) := takes_of rfl rfl rfl rfl
  have pso : PassesOwn (model P w) (cxOf (L2.CX P w) P w K mg base N_bring "bring" (defScope T_bring) f cdv A outer s H E).A (cxOf (L2.CX P w) P w K mg base N_bring "bring" (defScope T_bring) f cdv A outer s H E).env (cxOf (L2.CX P w) P w K mg base N_bring "bring" (defScope T_bring) f cdv A outer s H E).xe := passes_of rfl
  have nd := S_bring.nd
  exact (sss_cons (ss_asg (ev 0) (sg_tup (ws := [2, 3, 4, 5]) rfl (sgs_cons (sgn 2 nd) (sgs_cons (sgn 3 nd) (sgs_cons (sgn 4 nd) (sgs_cons (sgn 5 nd) sgs_nil)))))) (sss_one (ss_ret (se_call c_brought_to tk hr (sa_cons (se_call c_brought_to tk hr (sa_cons (ev 1) (sa_cons (ev 3) (sa_cons (ev 4) sa_nil)))) (sa_cons (ev 2) (sa_cons (ev 4) sa_nil)))))))
theorem a_bring {K : PySem.W.Frag} {f : Addr} {fd : FuncData} (F : FunD K "bring" "bring" (defArgs T_bring) (defBody T_bring) (defScope T_bring) [] [] f fd) : Binds K fd P_bring [] := F.bindsN fun _ _ _ _ _ _ us hl => match us, hl with | [_, _], _ => rfl
/-! write -/
abbrev N_write : List Str := ["way", "state", "number", "rest", "below", "turn", "carry", "used", "told", "left"]
abbrev T_write : Stmt := top 14
theorem S_write : FnScope N_write P_write (defScope T_write) := ⟨rfl, rfl, rfl, by decide +kernel, rfl, by decide +kernel, by decide +kernel⟩
def b_write (s_bring : FSem) (n : Nat) : XS := (sSeq (sAsg (xVar 1) (gTu 3 (gsCons (gN 3) (gsCons (gN 4) (gsCons (gN 5) gsNil))))) (sSeq (sAsg (xOp2v oIx 0 (xC (.int 3))) (gN 6)) (sSeq (sAsg (xIf (tAndB (tVal (xOp2v oEq 6 (xC (.str "signs")))) (tVal (xOp2v oLt 2 (xC (.int 0))))) (xVar 4) (xVar 3)) (gN 7)) (sSeq (sAsg (xCall 2 s_bring (aCons (xVar 0) (aCons (xOp2 oAdd (xVar 2) (xVar 7)) aNil))) (gN 8)) (sSeq (sAsg (xOp2 oSub (xOp2 oAdd (xVar 2) (xVar 7)) (xVar 8)) (gN 9)) (sSeq (sIf (tVal (xOp2v oEq 6 (xC (.str "none")))) (sRet (xTup (aCons (xVar 8) (aCons (xVar 1) aNil)))) sNext) (sSeq (sIf (tVal (xOp2v oEq 6 (xC (.str "all")))) (sRet (xTup (aCons (xVar 8) (aCons (xTup (aCons (xVar 9) (aCons (xC (.int 0)) (aCons (xC (.int 0)) aNil)))) aNil)))) sNext) (sSeq (sIf (tVal (xOp2v oEq 6 (xC (.str "pairs")))) (sRet (xTup (aCons (xVar 8) (aCons (xIf (tVal (xOp2v oEq 5 (xC (.int 0)))) (xTup (aCons (xVar 9) (aCons (xC (.int 0)) (aCons (xC (.int 1)) aNil)))) (xTup (aCons (xC (.int 0)) (aCons (xC (.int 0)) (aCons (xC (.int 0)) aNil))))) aNil)))) sNext) (sRet (xTup (aCons (xVar 8) (aCons (xIf (tVal (xOp2v oLt 2 (xC (.int 0)))) (xTup (aCons (xVar 3) (aCons (xVar 9) (aCons (xC (.int 0)) aNil)))) (xTup (aCons (xVar 9) (aCons (xVar 4) (aCons (xC (.int 0)) aNil))))) aNil))))))))))))
theorem d_write {P : Program} {w : World} {K : PySem.W.Frag} {mg : Str → Option Value} {base : Heap} {k : Nat} {f : Addr} {s_bring : FSem} (c_bring : Cal P w K mg base k "bring" P_bring s_bring) (n : Nat) (cdv : Value) (A : Around) (outer : List Env) (s : Shared) (H : Hp) (E : XK) (hr : Room k (A.deeper (envOfC "write" (defScope T_write) s.heap.objs.size f cdv))) : SSs (cxOf (L2.CX P w) P w K mg base N_write "write" (defScope T_write) f cdv A outer s H E) (fun c d _ H => E c d H) (defBody T_write) (b_write s_bring n) := by
  have tk : Takes (cxOf (L2.CX P w) P w K mg base N_write "write" (defScope T_write) f cdv A outer s H E) (fun c d _ H => E c d H) := takes_of rfl rfl rfl rfl
  have pso : PassesOwn (model P w) (cxOf (L2.CX P w) P w K mg base N_write "write" (defScope T_write) f cdv A outer s H E).A (cxOf (L2.CX P w) P w K mg base N_write "write" (defScope T_write) f cdv A outer s H E).env (cxOf (L2.CX P w) P w K mg base N_write "write" (defScope T_write) f cdv A outer s H E).xe := passes_of rfl
  have nd := S_write.nd
  exact (sss_cons (ss_asg (ev 1) (sg_tup (ws := [3, 4, 5]) rfl (sgs_cons (sgn 3 nd) (sgs_cons (sgn 4 nd) (sgs_cons (sgn 5 nd) sgs_nil))))) (sss_cons (sset 6 nd (eixv 0 (pv 0) se_int)) (sss_cons (sset 7 nd (se_if (st_sw (sw_and (tcmpv 6 (cr_eq hr.units) (pv 6) se_str) (sw_and1 (tcmpv 2 (cr_lt) (pv 2) se_int)))) (ev 4) (ev 3))) (sss_cons (sset 8 nd (se_call c_bring tk hr (sa_cons (ev 0) (sa_cons (eadd (ev 2) (ev 7)) sa_nil)))) (sss_cons (sset 9 nd (esub (eadd (ev 2) (ev 7)) (ev 8))) (sss_cons (ss_if (tcmpv 6 (cr_eq hr.units) (pv 6) se_str) (sss_one (ss_ret (se_tup (sa_cons (ev 8) (sa_cons (ev 1) sa_nil))))) sss_nil) (sss_cons (ss_if (tcmpv 6 (cr_eq hr.units) (pv 6) se_str) (sss_one (ss_ret (se_tup (sa_cons (ev 8) (sa_cons (se_tup (sa_cons (ev 9) (sa_cons se_int (sa_cons se_int sa_nil)))) sa_nil))))) sss_nil) (sss_cons (ss_if (tcmpv 6 (cr_eq hr.units) (pv 6) se_str) (sss_one (ss_ret (se_tup (sa_cons (ev 8) (sa_cons (se_if (tcmpv 5 (cr_eq hr.units) (pv 5) se_int) (se_tup (sa_cons (ev 9) (sa_cons se_int (sa_cons se_int sa_nil)))) (se_tup (sa_cons se_int (sa_cons se_int (sa_cons se_int sa_nil))))) sa_nil))))) sss_nil) (sss_one (ss_ret (se_tup (sa_cons (ev 8) (sa_cons (se_if (tcmpv 2 (cr_lt) (pv 2) se_int) (se_tup (sa_cons (ev 3) (sa_cons (ev 9) (sa_cons se_int sa_nil)))) (se_tup (sa_cons (ev 9) (sa_cons (ev 4) (sa_cons se_int sa_nil))))) sa_nil)))))))))))))
theorem a_write {K : PySem.W.Frag} {f : Addr} {fd : FuncData} (F : FunD K "write" "write" (defArgs T_write) (defBody T_write) (defScope T_write) [] [] f fd) : Binds K fd P_write [] := F.bindsN fun _ _ _ _ _ _ us hl => match us, hl with | [_, _, _], _ => rfl
/-! is_number -/
abbrev N_is_number : List Str := ["value"]
abbrev T_is_number : Stmt := top 21
theorem S_is_number : FnScope N_is_number P_is_number (defScope T_is_number) := ⟨rfl, rfl, rfl, by decide +kernel, rfl, by decide +kernel, by decide +kernel⟩
def b_is_number (s_is_int : FSem) (n : Nat) : XS := (sRet (xCall 3 s_is_int (aCons (xVar 0) (aCons (xNeg (xC k_WIDEST)) (aCons (xC k_WIDEST) aNil)))))
theorem d_is_number {P : Program} {w : World} {K : PySem.W.Frag} {mg : Str → Option Value} {base : Heap} {k : Nat} {f : Addr} {s_is_int : FSem} (g_WIDEST : GC K mg "WIDEST" k_WIDEST) (c_is_int : Cal P w K mg base k "is_int" P_is_int s_is_int) (n : Nat) (cdv : Value) (A : Around) (outer : List Env) (s : Shared) (H : Hp) (E : XK) (hr : Room k (A.deeper (envOfC "is_number" (defScope T_is_number) s.heap.objs.size f cdv))) : SSs (cxOf (L2.CX P w) P w K mg base N_is_number "is_number" (defScope T_is_number) f cdv A outer s H E) (fun c d _ H => E c d H) (defBody T_is_number) (b_is_number s_is_int n) := by
  have tk : Takes (cxOf (L2.CX P w) P w K mg base N_is_number "is_number" (defScope T_is_number) f cdv A outer s H E) (fun c d _ H => E c d H) := takes_of rfl rfl rfl rfl
  have pso : PassesOwn (model P w) (cxOf (L2.CX P w) P w K mg base N_is_number "is_number" (defScope T_is_number) f cdv A outer s H E).A (cxOf (L2.CX P w) P w K mg base N_is_number "is_number" (defScope T_is_number) f cdv A outer s H E).env (cxOf (L2.CX P w) P w K mg base N_is_number "is_number" (defScope T_is_number) f cdv A outer s H E).xe := passes_of rfl
  have nd := S_is_number.nd
  exact (sss_one (ss_ret (se_call c_is_int tk hr (sa_cons (ev 0) (sa_cons (se_neg (egc g_WIDEST)) (sa_cons (egc g_WIDEST) sa_nil))))))
theorem a_is_number {K : PySem.W.Frag} {f : Addr} {fd : FuncData} (F : FunD K "is_number" "is_number" (defArgs T_is_number) (defBody T_is_number) (defScope T_is_number) [] [] f fd) : Binds K fd P_is_number [] := F.bindsN fun _ _ _ _ _ _ us hl => match us, hl with | [_], _ => rfl
/-! check_number -/
abbrev N_check_number : List Str := ["value"]
abbrev T_check_number : Stmt := top 22
theorem S_check_number : FnScope N_check_number P_check_number (defScope T_check_number) := ⟨rfl, rfl, rfl, by decide +kernel, rfl, by decide +kernel, by decide +kernel⟩
def b_check_number (s_is_number : FSem) (n : Nat) : XS := (sIf (tNotB (tVal (xCall 1 s_is_number (aCons (xVar 0) aNil)))) (sRaise "BadRow") sNext)
theorem d_check_number {P : Program} {w : World} {K : PySem.W.Frag} {mg : Str → Option Value} {base : Heap} {k : Nat} {f : Addr} {s_is_number : FSem} (x_BadRow : XcF K mg "BadRow") (c_is_number : Cal P w K mg base k "is_number" P_is_number s_is_number) (n : Nat) (cdv : Value) (A : Around) (outer : List Env) (s : Shared) (H : Hp) (E : XK) (hr : Room k (A.deeper (envOfC "check_number" (defScope T_check_number) s.heap.objs.size f cdv))) : SSs (cxOf (L2.CX P w) P w K mg base N_check_number "check_number" (defScope T_check_number) f cdv A outer s H E) (fun c d _ H => E c d H) (defBody T_check_number) (b_check_number s_is_number n) := by
  have tk : Takes (cxOf (L2.CX P w) P w K mg base N_check_number "check_number" (defScope T_check_number) f cdv A outer s H E) (fun c d _ H => E c d H) := takes_of rfl rfl rfl rfl
  have pso : PassesOwn (model P w) (cxOf (L2.CX P w) P w K mg base N_check_number "check_number" (defScope T_check_number) f cdv A outer s H E).A (cxOf (L2.CX P w) P w K mg base N_check_number "check_number" (defScope T_check_number) f cdv A outer s H E).env (cxOf (L2.CX P w) P w K mg base N_check_number "check_number" (defScope T_check_number) f cdv A outer s H E).xe := passes_of rfl
  have nd := S_check_number.nd
  exact (sss_one (ss_if (st_not (st_val (se_call c_is_number tk hr (sa_cons (ev 0) sa_nil)))) (sss_one (sraise x_BadRow rfl tk)) sss_nil))
theorem a_check_number {K : PySem.W.Frag} {f : Addr} {fd : FuncData} (F : FunD K "check_number" "check_number" (defArgs T_check_number) (defBody T_check_number) (defScope T_check_number) [] [] f fd) : Binds K fd P_check_number [] := F.bindsN fun _ _ _ _ _ _ us hl => match us, hl with | [_], _ => rfl
/-! is_row -/
abbrev N_is_row : List Str := ["value", "one"]
abbrev T_is_row : Stmt := top 23
theorem S_is_row : FnScope N_is_row P_is_row (defScope T_is_row) := ⟨rfl, rfl, rfl, by decide +kernel, rfl, by decide +kernel, by decide +kernel⟩
def u_is_row_0 (s_is_number : FSem) : XE := (xCall 1 s_is_number (aCons (xVar 1) aNil))
def c_is_row_0 (s_is_number : FSem) : XE := (xComp [1] (iSeq (xFz (xVar 0))) (gN 1) tYesO (u_is_row_0 s_is_number))
def b_is_row (s_is_number : FSem) (n : Nat) : XS := (sRet (xAnd (xIsi "list" (xVar 0)) (xAnd (xOp2 oLe (xCBw lenO 0) (xC k_MOST_ROW)) (xCB allC (aCons (c_is_row_0 s_is_number) aNil)))))
theorem d_is_row {P : Program} {w : World} {K : PySem.W.Frag} {mg : Str → Option Value} {base : Heap} {k : Nat} {f : Addr} {s_is_number : FSem} (z_isinstance : mg "isinstance" = none) (z_list : mg "list" = none) (z_len : mg "len" = none) (g_MOST_ROW : GC K mg "MOST_ROW" k_MOST_ROW) (z_all : mg "all" = none) (c_is_number : Cal P w K mg base k "is_number" P_is_number s_is_number) (n : Nat) (cdv : Value) (A : Around) (outer : List Env) (s : Shared) (H : Hp) (E : XK) (hr : Room k (A.deeper (envOfC "is_row" (defScope T_is_row) s.heap.objs.size f cdv))) : SSs (cxOf (L2.CX P w) P w K mg base N_is_row "is_row" (defScope T_is_row) f cdv A outer s H E) (fun c d _ H => E c d H) (defBody T_is_row) (b_is_row s_is_number n) := by
  have tk : Takes (cxOf (L2.CX P w) P w K mg base N_is_row "is_row" (defScope T_is_row) f cdv A outer s H E) (fun c d _ H => E c d H) := takes_of rfl rfl rfl rfl
  have pso : PassesOwn (model P w) (cxOf (L2.CX P w) P w K mg base N_is_row "is_row" (defScope T_is_row) f cdv A outer s H E).A (cxOf (L2.CX P w) P w K mg base N_is_row "is_row" (defScope T_is_row) f cdv A outer s H E).env (cxOf (L2.CX P w) P w K mg base N_is_row "is_row" (defScope T_is_row) f cdv A outer s H E).xe := passes_of rfl
  have nd := S_is_row.nd
  exact (sss_one (ss_ret (se_and (se_isi (T := "list") (ev 0) z_isinstance z_list rfl) (se_and (ecmp (cr_le) (se_callBw 0 call_len_seq vcw_len z_len PySem.boot_len (pv 0)) (egc g_MOST_ROW)) (se_one (se_callB (cr_all rfl) vc_all z_all (by decide +kernel) (sa_cons (by exact se_lc (own := [("one", 1)]) rfl nd (si_list (ev 0)) (blkOk_by (N := N_is_row) (sc := defScope T_is_row) (by decide +kernel)) (fun _ _ _ _ _ => by exact (sgn 1 nd)) (fun _ _ _ _ _ => by exact sts_nil) (fun _ _ _ _ _ => by exact (se_call c_is_number takes0 hr (sa_cons (ev 1) sa_nil)))) sa_nil)))))))
theorem a_is_row {K : PySem.W.Frag} {f : Addr} {fd : FuncData} (F : FunD K "is_row" "is_row" (defArgs T_is_row) (defBody T_is_row) (defScope T_is_row) [] [] f fd) : Binds K fd P_is_row [] := F.bindsN fun _ _ _ _ _ _ us hl => match us, hl with | [_], _ => rfl
/-! check_row -/
abbrev N_check_row : List Str := ["value"]
abbrev T_check_row : Stmt := top 24
theorem S_check_row : FnScope N_check_row P_check_row (defScope T_check_row) := ⟨rfl, rfl, rfl, by decide +kernel, rfl, by decide +kernel, by decide +kernel⟩
def b_check_row (s_is_row : FSem) (n : Nat) : XS := (sIf (tNotB (tVal (xCall 1 s_is_row (aCons (xVar 0) aNil)))) (sRaise "BadRow") sNext)
theorem d_check_row {P : Program} {w : World} {K : PySem.W.Frag} {mg : Str → Option Value} {base : Heap} {k : Nat} {f : Addr} {s_is_row : FSem} (x_BadRow : XcF K mg "BadRow") (c_is_row : Cal P w K mg base k "is_row" P_is_row s_is_row) (n : Nat) (cdv : Value) (A : Around) (outer : List Env) (s : Shared) (H : Hp) (E : XK) (hr : Room k (A.deeper (envOfC "check_row" (defScope T_check_row) s.heap.objs.size f cdv))) : SSs (cxOf (L2.CX P w) P w K mg base N_check_row "check_row" (defScope T_check_row) f cdv A outer s H E) (fun c d _ H => E c d H) (defBody T_check_row) (b_check_row s_is_row n) := by
  have tk : Takes (cxOf (L2.CX P w) P w K mg base N_check_row "check_row" (defScope T_check_row) f cdv A outer s H E) (fun c d _ H => E c d H) := takes_of rfl rfl rfl rfl
  have pso : PassesOwn (model P w) (cxOf (L2.CX P w) P w K mg base N_check_row "check_row" (defScope T_check_row) f cdv A outer s H E).A (cxOf (L2.CX P w) P w K mg base N_check_row "check_row" (defScope T_check_row) f cdv A outer s H E).env (cxOf (L2.CX P w) P w K mg base N_check_row "check_row" (defScope T_check_row) f cdv A outer s H E).xe := passes_of rfl
  have nd := S_check_row.nd
  exact (sss_one (ss_if (st_not (st_val (se_call c_is_row tk hr (sa_cons (ev 0) sa_nil)))) (sss_one (sraise x_BadRow rfl tk)) sss_nil))
theorem a_check_row {K : PySem.W.Frag} {f : Addr} {fd : FuncData} (F : FunD K "check_row" "check_row" (defArgs T_check_row) (defBody T_check_row) (defScope T_check_row) [] [] f fd) : Binds K fd P_check_row [] := F.bindsN fun _ _ _ _ _ _ us hl => match us, hl with | [_], _ => rfl
/-! is_word -/
abbrev N_is_word : List Str := ["value", "words"]
abbrev T_is_word : Stmt := top 25
theorem S_is_word : FnScope N_is_word P_is_word (defScope T_is_word) := ⟨rfl, rfl, rfl, by decide +kernel, rfl, by decide +kernel, by decide +kernel⟩
def b_is_word (n : Nat) : XS := (sRet (xAnd (xIsi "str" (xVar 0)) (xOp2w oIn (xVar 0) 1)))
theorem d_is_word {P : Program} {w : World} {K : PySem.W.Frag} {mg : Str → Option Value} {base : Heap} {k : Nat} {f : Addr} (z_isinstance : mg "isinstance" = none) (z_str : mg "str" = none) (n : Nat) (cdv : Value) (A : Around) (outer : List Env) (s : Shared) (H : Hp) (E : XK) (hr : Room k (A.deeper (envOfC "is_word" (defScope T_is_word) s.heap.objs.size f cdv))) : SSs (cxOf (L2.CX P w) P w K mg base N_is_word "is_word" (defScope T_is_word) f cdv A outer s H E) (fun c d _ H => E c d H) (defBody T_is_word) (b_is_word n) := by
  have tk : Takes (cxOf (L2.CX P w) P w K mg base N_is_word "is_word" (defScope T_is_word) f cdv A outer s H E) (fun c d _ H => E c d H) := takes_of rfl rfl rfl rfl
  have pso : PassesOwn (model P w) (cxOf (L2.CX P w) P w K mg base N_is_word "is_word" (defScope T_is_word) f cdv A outer s H E).A (cxOf (L2.CX P w) P w K mg base N_is_word "is_word" (defScope T_is_word) f cdv A outer s H E).env (cxOf (L2.CX P w) P w K mg base N_is_word "is_word" (defScope T_is_word) f cdv A outer s H E).xe := passes_of rfl
  have nd := S_is_word.nd
  have hu : (A.deeper (envOfC "is_word" (defScope T_is_word) s.heap.objs.size f cdv)).units + 65 < cLine := hu65 hr
  exact (sss_one (ss_ret (se_and (se_isi (T := "str") (ev 0) z_isinstance z_str rfl) (se_one (ecmpw 1 (cr_in hu) (ev 0) (pv 1))))))
theorem a_is_word {K : PySem.W.Frag} {f : Addr} {fd : FuncData} (F : FunD K "is_word" "is_word" (defArgs T_is_word) (defBody T_is_word) (defScope T_is_word) [] [] f fd) : Binds K fd P_is_word [] := F.bindsN fun _ _ _ _ _ _ us hl => match us, hl with | [_, _], _ => rfl
/-! is_way -/
abbrev N_is_way : List Str := ["value"]
abbrev T_is_way : Stmt := top 26
theorem S_is_way : FnScope N_is_way P_is_way (defScope T_is_way) := ⟨rfl, rfl, rfl, by decide +kernel, rfl, by decide +kernel, by decide +kernel⟩
def b_is_way (s_is_int : FSem) (s_is_word : FSem) (n : Nat) : XS := (sSeq (sIf (tOrB (tNotB (tVal (xIsi "tuple" (xVar 0)))) (tVal (xOp2 oNe (xCBw lenO 0) (xC (.int 4))))) (sRet (xC (.bool false))) sNext) (sSeq (sIf (tOrB (tNotB (tVal (xCall 3 s_is_int (aCons (xOp2v oIx 0 (xC (.int 0))) (aCons (xC (.int 2)) (aCons (xC (.int 6)) aNil)))))) (tOrB (tNotB (tVal (xCall 3 s_is_int (aCons (xOp2v oIx 0 (xC (.int 1))) (aCons (xC (.int 1)) (aCons (xC (.int 3)) aNil)))))) (tVal (xOp2 oNotIn (xCut (xVar 0) pNo (pSo (xC (.int 2)))) (xC k_STEPS))))) (sRet (xC (.bool false))) sNext) (sRet (xAnd (xCall 2 s_is_word (aCons (xOp2v oIx 0 (xC (.int 2))) (aCons (xC k_MODES) aNil))) (xCall 2 s_is_word (aCons (xOp2v oIx 0 (xC (.int 3))) (aCons (xC k_CARRIES) aNil)))))))
theorem d_is_way {P : Program} {w : World} {K : PySem.W.Frag} {mg : Str → Option Value} {base : Heap} {k : Nat} {f : Addr} {s_is_int : FSem} {s_is_word : FSem} (z_isinstance : mg "isinstance" = none) (z_tuple : mg "tuple" = none) (z_len : mg "len" = none) (g_STEPS : GC K mg "STEPS" k_STEPS) (g_MODES : GC K mg "MODES" k_MODES) (g_CARRIES : GC K mg "CARRIES" k_CARRIES) (c_is_int : Cal P w K mg base k "is_int" P_is_int s_is_int) (c_is_word : Cal P w K mg base k "is_word" P_is_word s_is_word) (n : Nat) (cdv : Value) (A : Around) (outer : List Env) (s : Shared) (H : Hp) (E : XK) (hr : Room k (A.deeper (envOfC "is_way" (defScope T_is_way) s.heap.objs.size f cdv))) : SSs (cxOf (L2.CX P w) P w K mg base N_is_way "is_way" (defScope T_is_way) f cdv A outer s H E) (fun c d _ H => E c d H) (defBody T_is_way) (b_is_way s_is_int s_is_word n) := by
  have tk : Takes (cxOf (L2.CX P w) P w K mg base N_is_way "is_way" (defScope T_is_way) f cdv A outer s H E) (fun c d _ H => E c d H) := takes_of rfl rfl rfl rfl
  have pso : PassesOwn (model P w) (cxOf (L2.CX P w) P w K mg base N_is_way "is_way" (defScope T_is_way) f cdv A outer s H E).A (cxOf (L2.CX P w) P w K mg base N_is_way "is_way" (defScope T_is_way) f cdv A outer s H E).env (cxOf (L2.CX P w) P w K mg base N_is_way "is_way" (defScope T_is_way) f cdv A outer s H E).xe := passes_of rfl
  have nd := S_is_way.nd
  have hu : (A.deeper (envOfC "is_way" (defScope T_is_way) s.heap.objs.size f cdv)).units + 65 < cLine := hu65 hr
  exact (sss_cons (ss_if (st_sw (sw_or (st_not (st_val (se_isi (T := "tuple") (ev 0) z_isinstance z_tuple rfl))) (sw_or1 (tcmp (cr_ne hr.units) (se_callBw 0 call_len_seq vcw_len z_len PySem.boot_len (pv 0)) se_int)))) (sss_one (ss_ret se_bool)) sss_nil) (sss_cons (ss_if (st_sw (sw_or (st_not (st_val (se_call c_is_int tk hr (sa_cons (eixv 0 (pv 0) se_int) (sa_cons se_int (sa_cons se_int sa_nil)))))) (sw_or (st_not (st_val (se_call c_is_int tk hr (sa_cons (eixv 0 (pv 0) se_int) (sa_cons se_int (sa_cons se_int sa_nil)))))) (sw_or1 (tcmp (cr_notin hu) (se_cut (ev 0) sp_none (sp_some se_int)) (egc g_STEPS)))))) (sss_one (ss_ret se_bool)) sss_nil) (sss_one (ss_ret (se_and (se_call c_is_word tk hr (sa_cons (eixv 0 (pv 0) se_int) (sa_cons (egc g_MODES) sa_nil))) (se_one (se_call c_is_word tk hr (sa_cons (eixv 0 (pv 0) se_int) (sa_cons (egc g_CARRIES) sa_nil)))))))))
theorem a_is_way {K : PySem.W.Frag} {f : Addr} {fd : FuncData} (F : FunD K "is_way" "is_way" (defArgs T_is_way) (defBody T_is_way) (defScope T_is_way) [] [] f fd) : Binds K fd P_is_way [] := F.bindsN fun _ _ _ _ _ _ us hl => match us, hl with | [_], _ => rfl
/-! check_way -/
abbrev N_check_way : List Str := ["value"]
abbrev T_check_way : Stmt := top 27
theorem S_check_way : FnScope N_check_way P_check_way (defScope T_check_way) := ⟨rfl, rfl, rfl, by decide +kernel, rfl, by decide +kernel, by decide +kernel⟩
def b_check_way (s_is_way : FSem) (n : Nat) : XS := (sIf (tNotB (tVal (xCall 1 s_is_way (aCons (xVar 0) aNil)))) (sRaise "BadWay") sNext)
theorem d_check_way {P : Program} {w : World} {K : PySem.W.Frag} {mg : Str → Option Value} {base : Heap} {k : Nat} {f : Addr} {s_is_way : FSem} (x_BadWay : XcF K mg "BadWay") (c_is_way : Cal P w K mg base k "is_way" P_is_way s_is_way) (n : Nat) (cdv : Value) (A : Around) (outer : List Env) (s : Shared) (H : Hp) (E : XK) (hr : Room k (A.deeper (envOfC "check_way" (defScope T_check_way) s.heap.objs.size f cdv))) : SSs (cxOf (L2.CX P w) P w K mg base N_check_way "check_way" (defScope T_check_way) f cdv A outer s H E) (fun c d _ H => E c d H) (defBody T_check_way) (b_check_way s_is_way n) := by
  have tk : Takes (cxOf (L2.CX P w) P w K mg base N_check_way "check_way" (defScope T_check_way) f cdv A outer s H E) (fun c d _ H => E c d H) := takes_of rfl rfl rfl rfl
  have pso : PassesOwn (model P w) (cxOf (L2.CX P w) P w K mg base N_check_way "check_way" (defScope T_check_way) f cdv A outer s H E).A (cxOf (L2.CX P w) P w K mg base N_check_way "check_way" (defScope T_check_way) f cdv A outer s H E).env (cxOf (L2.CX P w) P w K mg base N_check_way "check_way" (defScope T_check_way) f cdv A outer s H E).xe := passes_of rfl
  have nd := S_check_way.nd
  exact (sss_one (ss_if (st_not (st_val (se_call c_is_way tk hr (sa_cons (ev 0) sa_nil)))) (sss_one (sraise x_BadWay rfl tk)) sss_nil))
theorem a_check_way {K : PySem.W.Frag} {f : Addr} {fd : FuncData} (F : FunD K "check_way" "check_way" (defArgs T_check_way) (defBody T_check_way) (defScope T_check_way) [] [] f fd) : Binds K fd P_check_way [] := F.bindsN fun _ _ _ _ _ _ us hl => match us, hl with | [_], _ => rfl
/-! run -/
abbrev N_run : List Str := ["way", "row", "told", "states", "number", "one", "after"]
abbrev T_run : Stmt := top 32
theorem S_run : FnScope N_run P_run (defScope T_run) := ⟨rfl, rfl, rfl, by decide +kernel, rfl, by decide +kernel, by decide +kernel⟩
def w_run_0 (s_write : FSem) : XS := (sSeq (sAsg (xCall 3 s_write (aCons (xVar 0) (aCons (xOp2v oIx 3 (xNeg (xC (.int 1)))) (aCons (xVar 4) aNil)))) (gTu 2 (gsCons (gN 5) (gsCons (gN 6) gsNil)))) (sSeq (sApp 2 (aCons (xVar 5) aNil)) (sApp 3 (aCons (xVar 6) aNil))))
def c_run_0 (s_write : FSem) : XS := (sFor (iSeq (xFz (xVar 1))) (gN 4) (w_run_0 s_write))
def b_run (s_write : FSem) (n : Nat) : XS := (sSeq (sPar2 2 3 (xLst aNil) (xLst (aCons (xC k_START) aNil))) (sSeq (c_run_0 s_write) (sRet (xTup (aCons (xVar 2) (aCons (xVar 3) aNil))))))
theorem d_run {P : Program} {w : World} {K : PySem.W.Frag} {mg : Str → Option Value} {base : Heap} {k : Nat} {f : Addr} {s_write : FSem} (g_START : GC K mg "START" k_START) (c_write : Cal P w K mg base k "write" P_write s_write) (n : Nat) (cdv : Value) (A : Around) (outer : List Env) (s : Shared) (H : Hp) (E : XK) (hr : Room k (A.deeper (envOfC "run" (defScope T_run) s.heap.objs.size f cdv))) : SSs (cxOf (L2.CX P w) P w K mg base N_run "run" (defScope T_run) f cdv A outer s H E) (fun c d _ H => E c d H) (defBody T_run) (b_run s_write n) := by
  have tk : Takes (cxOf (L2.CX P w) P w K mg base N_run "run" (defScope T_run) f cdv A outer s H E) (fun c d _ H => E c d H) := takes_of rfl rfl rfl rfl
  have pso : PassesOwn (model P w) (cxOf (L2.CX P w) P w K mg base N_run "run" (defScope T_run) f cdv A outer s H E).A (cxOf (L2.CX P w) P w K mg base N_run "run" (defScope T_run) f cdv A outer s H E).env (cxOf (L2.CX P w) P w K mg base N_run "run" (defScope T_run) f cdv A outer s H E).xe := passes_of rfl
  have nd := S_run.nd
  exact (sss_cons (ss_par2 2 3 rfl nd rfl rfl (by decide) rfl rfl (se_lst sa_nil) (se_lst (sa_cons (egc g_START) sa_nil))) (sss_cons (sfor pso rfl (si_list (ev 1)) (sgn 4 nd (vs := [4])) (sss_cons (ss_asg (se_call c_write tk hr (sa_cons (ev 0) (sa_cons (eixv 3 (pv 3) (se_neg se_int)) (sa_cons (ev 4) sa_nil)))) (sg_tup (ws := [5, 6]) rfl (sgs_cons (sgn 5 nd) (sgs_cons (sgn 6 nd) sgs_nil)))) (sss_cons (ss_append 2 (pv 2) (ev 5)) (sss_one (ss_append 3 (pv 3) (ev 6)))))) (sss_one (ss_ret (se_tup (sa_cons (ev 2) (sa_cons (ev 3) sa_nil)))))))
theorem a_run {K : PySem.W.Frag} {f : Addr} {fd : FuncData} (F : FunD K "run" "run" (defArgs T_run) (defBody T_run) (defScope T_run) [] [] f fd) : Binds K fd P_run [] := F.bindsN fun _ _ _ _ _ _ us hl => match us, hl with | [_, _], _ => rfl
/-! written -/
abbrev N_written : List Str := ["way", "row"]
abbrev T_written : Stmt := top 33
theorem S_written : FnScope N_written P_written (defScope T_written) := ⟨rfl, rfl, rfl, by decide +kernel, rfl, by decide +kernel, by decide +kernel⟩
def b_written (s_check_way : FSem) (s_check_row : FSem) (s_run : FSem) (n : Nat) : XS := (sSeq (sExpr (xCall 1 s_check_way (aCons (xVar 0) aNil))) (sSeq (sExpr (xCall 1 s_check_row (aCons (xVar 1) aNil))) (sRet (xOp2 oIx (xCall 2 s_run (aCons (xVar 0) (aCons (xVar 1) aNil))) (xC (.int 0))))))
theorem d_written {P : Program} {w : World} {K : PySem.W.Frag} {mg : Str → Option Value} {base : Heap} {k : Nat} {f : Addr} {s_check_way : FSem} {s_check_row : FSem} {s_run : FSem} (c_check_way : Cal P w K mg base k "check_way" P_check_way s_check_way) (c_check_row : Cal P w K mg base k "check_row" P_check_row s_check_row) (c_run : Cal P w K mg base k "run" P_run s_run) (n : Nat) (cdv : Value) (A : Around) (outer : List Env) (s : Shared) (H : Hp) (E : XK) (hr : Room k (A.deeper (envOfC "written" (defScope T_written) s.heap.objs.size f cdv))) : SSs (cxOf (L2.CX P w) P w K mg base N_written "written" (defScope T_written) f cdv A outer s H E) (fun c d _ H => E c d H) (defBody T_written) (b_written s_check_way s_check_row s_run n) := by
  have tk : Takes (cxOf (L2.CX P w) P w K mg base N_written "written" (defScope T_written) f cdv A outer s H E) (fun c d _ H => E c d H) := takes_of rfl rfl rfl rfl
  have pso : PassesOwn (model P w) (cxOf (L2.CX P w) P w K mg base N_written "written" (defScope T_written) f cdv A outer s H E).A (cxOf (L2.CX P w) P w K mg base N_written "written" (defScope T_written) f cdv A outer s H E).env (cxOf (L2.CX P w) P w K mg base N_written "written" (defScope T_written) f cdv A outer s H E).xe := passes_of rfl
  have nd := S_written.nd
  exact (sss_cons (ss_expr (se_call c_check_way tk hr (sa_cons (ev 0) sa_nil))) (sss_cons (ss_expr (se_call c_check_row tk hr (sa_cons (ev 1) sa_nil))) (sss_one (ss_ret (eix (se_call c_run tk hr (sa_cons (ev 0) (sa_cons (ev 1) sa_nil))) se_int)))))
theorem a_written {K : PySem.W.Frag} {f : Addr} {fd : FuncData} (F : FunD K "written" "written" (defArgs T_written) (defBody T_written) (defScope T_written) [] [] f fd) : Binds K fd P_written [] := F.bindsN fun _ _ _ _ _ _ us hl => match us, hl with | [_, _], _ => rfl
/-! _law_start -/
abbrev N__law_start : List Str := ["_law_script"]
abbrev T__law_start : Stmt := top 35
theorem S__law_start : FnScope N__law_start P__law_start (defScope T__law_start) := ⟨rfl, rfl, rfl, by decide +kernel, rfl, by decide +kernel, by decide +kernel⟩
def b__law_start (n : Nat) : XS := (sRet (xLst2 (xIf (tVal (xScrNe 0)) (xScrL 0) (xLst (aCons (xC (.int 0)) aNil))) (xC (.int 0))))
theorem d__law_start {P : Program} {w : World} {K : PySem.W.Frag} {mg : Str → Option Value} {base : Heap} {k : Nat} {f : Addr} (z_list : mg "list" = none) (n : Nat) (cdv : Value) (A : Around) (outer : List Env) (s : Shared) (H : Hp) (E : XK) (hr : Room k (A.deeper (envOfC "_law_start" (defScope T__law_start) s.heap.objs.size f cdv))) : SSs (cxOf (L2.CX P w) P w K mg base N__law_start "_law_start" (defScope T__law_start) f cdv A outer s H E) (fun c d _ H => E c d H) (defBody T__law_start) (b__law_start n) := by
  have tk : Takes (cxOf (L2.CX P w) P w K mg base N__law_start "_law_start" (defScope T__law_start) f cdv A outer s H E) (fun c d _ H => E c d H) := takes_of rfl rfl rfl rfl
  have pso : PassesOwn (model P w) (cxOf (L2.CX P w) P w K mg base N__law_start "_law_start" (defScope T__law_start) f cdv A outer s H E).A (cxOf (L2.CX P w) P w K mg base N__law_start "_law_start" (defScope T__law_start) f cdv A outer s H E).env (cxOf (L2.CX P w) P w K mg base N__law_start "_law_start" (defScope T__law_start) f cdv A outer s H E).xe := passes_of rfl
  have nd := S__law_start.nd
  exact (sss_one (ss_ret (se_lst2 (se_if (st_scrNe 0 hr.units (pv 0)) (se_scrL 0 z_list (pv 0)) (se_lst (sa_cons se_int sa_nil))) se_int)))
theorem a__law_start {K : PySem.W.Frag} {f : Addr} {fd : FuncData} (F : FunD K "_law_start" "_law_start" (defArgs T__law_start) (defBody T__law_start) (defScope T__law_start) [] [] f fd) : Binds K fd P__law_start [] := F.bindsN fun _ _ _ _ _ _ us hl => match us, hl with | [_], _ => rfl
/-! _law_draw -/
abbrev N__law_draw : List Str := ["_law_draws", "_law_limit", "_law_numbers", "_law_at_here", "_law_cell", "_law_mixed"]
abbrev T__law_draw : Stmt := top 36
theorem S__law_draw : FnScope N__law_draw P__law_draw (defScope T__law_draw) := ⟨rfl, rfl, rfl, by decide +kernel, rfl, by decide +kernel, by decide +kernel⟩
def b__law_draw (n : Nat) : XS := (sSeq (sAsg (xIxG 0 (xC (.int 0))) (gN 2)) (sSeq (sSetG 0 (xOp2 oAdd (xIxG 0 (xC (.int 1))) (xC (.int 1))) (xC (.int 1))) (sSeq (sAsg (xOp2 oMod (xIxG 0 (xC (.int 1))) (xLenG 2)) (gN 3)) (sSeq (sAsg (xIxG 2 (xVar 3)) (gN 4)) (sSeq (sIf (tVal (xOp2v oGe 4 (xC (.int 1000000000000000000)))) (sSeq (sSetG 2 (xOp2 oDiv (xVar 4) (xVar 1)) (xVar 3)) (sRet (xOp2 oMod (xVar 4) (xVar 1)))) sNext) (sSeq (sAsg (xOp2 oMod (xOp2 oAdd (xVar 4) (xOp2 oMul (xC (.int 104729)) (xIxG 0 (xC (.int 1))))) (xC (.int 4294967291))) (gN 5)) (sSeq (sAsg (xOp2 oMod (xOp2 oPow (xVar 5) (xC (.int 5))) (xC (.int 4294967279))) (gN 5)) (sRet (xOp2 oMod (xOp2 oDiv (xOp2 oMod (xOp2 oAdd (xOp2 oMul (xOp2 oDiv (xVar 5) (xC (.int 64))) (xC (.int 69621))) (xVar 5)) (xC (.int 4294967231))) (xC (.int 8))) (xVar 1))))))))))
theorem d__law_draw {P : Program} {w : World} {K : PySem.W.Frag} {mg : Str → Option Value} {base : Heap} {k : Nat} {f : Addr} (z_len : mg "len" = none) (n : Nat) (cdv : Value) (A : Around) (outer : List Env) (s : Shared) (H : Hp) (E : XK) (hr : Room k (A.deeper (envOfC "_law_draw" (defScope T__law_draw) s.heap.objs.size f cdv))) : SSs (cxOf (L2.CX P w) P w K mg base N__law_draw "_law_draw" (defScope T__law_draw) f cdv A outer s H E) (fun c d _ H => E c d H) (defBody T__law_draw) (b__law_draw n) := by
  have tk : Takes (cxOf (L2.CX P w) P w K mg base N__law_draw "_law_draw" (defScope T__law_draw) f cdv A outer s H E) (fun c d _ H => E c d H) := takes_of rfl rfl rfl rfl
  have pso : PassesOwn (model P w) (cxOf (L2.CX P w) P w K mg base N__law_draw "_law_draw" (defScope T__law_draw) f cdv A outer s H E).A (cxOf (L2.CX P w) P w K mg base N__law_draw "_law_draw" (defScope T__law_draw) f cdv A outer s H E).env (cxOf (L2.CX P w) P w K mg base N__law_draw "_law_draw" (defScope T__law_draw) f cdv A outer s H E).xe := passes_of rfl
  have nd := S__law_draw.nd
  exact (sss_cons (sset 2 nd (se_ixG 0 (pv 0) se_int)) (sss_cons (ss_setG 0 (eadd (se_ixG 0 (pv 0) se_int) se_int) (pv 0) se_int) (sss_cons (sset 3 nd (emod (se_ixG 0 (pv 0) se_int) (se_lenG 2 z_len (pv 2)))) (sss_cons (sset 4 nd (se_ixG 2 (pv 2) (ev 3))) (sss_cons (ss_if (tcmpv 4 (cr_ge) (pv 4) se_int) (sss_cons (ss_setG 2 (ediv (ev 4) (ev 1)) (pv 2) (ev 3)) (sss_one (ss_ret (emod (ev 4) (ev 1))))) sss_nil) (sss_cons (sset 5 nd (emod (eadd (ev 4) (emul se_int (se_ixG 0 (pv 0) se_int))) se_int)) (sss_cons (sset 5 nd (emod (epow (ev 5) se_int) se_int)) (sss_one (ss_ret (emod (ediv (emod (eadd (emul (ediv (ev 5) se_int) se_int) (ev 5)) se_int) se_int) (ev 1)))))))))))
theorem a__law_draw {K : PySem.W.Frag} {f : Addr} {fd : FuncData} (F : FunD K "_law_draw" "_law_draw" (defArgs T__law_draw) (defBody T__law_draw) (defScope T__law_draw) [] [] f fd) : Binds K fd P__law_draw [] := F.bindsN fun _ _ _ _ _ _ us hl => match us, hl with | [_, _], _ => rfl
/-! _law_pick -/
abbrev N__law_pick : List Str := ["_law_draws", "_law_choices"]
abbrev T__law_pick : Stmt := top 37
theorem S__law_pick : FnScope N__law_pick P__law_pick (defScope T__law_pick) := ⟨rfl, rfl, rfl, by decide +kernel, rfl, by decide +kernel, by decide +kernel⟩
def b__law_pick (s__law_draw : FSem) (n : Nat) : XS := (sRet (xOp2v oIx 1 (xCall 2 s__law_draw (aCons (xVar 0) (aCons (xCBw lenO 1) aNil)))))
theorem d__law_pick {P : Program} {w : World} {K : PySem.W.Frag} {mg : Str → Option Value} {base : Heap} {k : Nat} {f : Addr} {s__law_draw : FSem} (z_len : mg "len" = none) (c__law_draw : Cal P w K mg base k "_law_draw" P__law_draw s__law_draw) (n : Nat) (cdv : Value) (A : Around) (outer : List Env) (s : Shared) (H : Hp) (E : XK) (hr : Room k (A.deeper (envOfC "_law_pick" (defScope T__law_pick) s.heap.objs.size f cdv))) : SSs (cxOf (L2.CX P w) P w K mg base N__law_pick "_law_pick" (defScope T__law_pick) f cdv A outer s H E) (fun c d _ H => E c d H) (defBody T__law_pick) (b__law_pick s__law_draw n) := by
  have tk : Takes (cxOf (L2.CX P w) P w K mg base N__law_pick "_law_pick" (defScope T__law_pick) f cdv A outer s H E) (fun c d _ H => E c d H) := takes_of rfl rfl rfl rfl
  have pso : PassesOwn (model P w) (cxOf (L2.CX P w) P w K mg base N__law_pick "_law_pick" (defScope T__law_pick) f cdv A outer s H E).A (cxOf (L2.CX P w) P w K mg base N__law_pick "_law_pick" (defScope T__law_pick) f cdv A outer s H E).env (cxOf (L2.CX P w) P w K mg base N__law_pick "_law_pick" (defScope T__law_pick) f cdv A outer s H E).xe := passes_of rfl
  have nd := S__law_pick.nd
  exact (sss_one (ss_ret (eixv 1 (pv 1) (se_call c__law_draw tk hr (sa_cons (ev 0) (sa_cons (se_callBw 1 call_len_seq vcw_len z_len PySem.boot_len (pv 1)) sa_nil))))))
theorem a__law_pick {K : PySem.W.Frag} {f : Addr} {fd : FuncData} (F : FunD K "_law_pick" "_law_pick" (defArgs T__law_pick) (defBody T__law_pick) (defScope T__law_pick) [] [] f fd) : Binds K fd P__law_pick [] := F.bindsN fun _ _ _ _ _ _ us hl => match us, hl with | [_, _], _ => rfl
/-! _law_error -/
abbrev N__law_error : List Str := ["_law_caught", "_law_kinds"]
abbrev T__law_error : Stmt := top 38
theorem S__law_error : FnScope N__law_error P__law_error (defScope T__law_error) := ⟨rfl, rfl, rfl, by decide +kernel, rfl, by decide +kernel, by decide +kernel⟩
def b__law_error (n : Nat) : XS := (sSeq (sAsg (xLst (aCons (xIsX sub_BadWay (xVar 0)) (aCons (xIsX sub_BadRow (xVar 0)) (aCons (xIsX sub_BadWritten (xVar 0)) aNil)))) (gN 1)) (sSeq (sAsg (xOp2 oAdd (xVar 1) (xLst (aCons (xIsX sub_BadNumber (xVar 0)) (aCons (xIsX sub_BadText (xVar 0)) (aCons (xIsX sub_NotFound (xVar 0)) aNil))))) (gN 1)) (sSeq (sIf (tOrB (tVal (xOp2 oNe (xCount 1 (xC (.bool true))) (xC (.int 1)))) (tOrB (tNotB (tVal (xIsX sub_RestError (xVar 0)))) (tNotB (tVal (xIsX sub_ValueError (xVar 0)))))) (sRet (xC (.str "odd"))) sNext) (sRet (xOp2 oIx (xLst (aCons (xC (.str "way")) (aCons (xC (.str "row")) (aCons (xC (.str "written")) (aCons (xC (.str "number")) (aCons (xC (.str "text")) (aCons (xC (.str "none")) aNil))))))) (xIndex 1 (xC (.bool true))))))))
theorem d__law_error {P : Program} {w : World} {K : PySem.W.Frag} {mg : Str → Option Value} {base : Heap} {k : Nat} {f : Addr} (z_isinstance : mg "isinstance" = none) (x_BadWay : XcF K mg "BadWay") (i_BadWay : IsOk K (.ref (He.ga K "BadWay")) sub_BadWay) (x_BadRow : XcF K mg "BadRow") (i_BadRow : IsOk K (.ref (He.ga K "BadRow")) sub_BadRow) (x_BadWritten : XcF K mg "BadWritten") (i_BadWritten : IsOk K (.ref (He.ga K "BadWritten")) sub_BadWritten) (x_BadNumber : XcF K mg "BadNumber") (i_BadNumber : IsOk K (.ref (He.ga K "BadNumber")) sub_BadNumber) (x_BadText : XcF K mg "BadText") (i_BadText : IsOk K (.ref (He.ga K "BadText")) sub_BadText) (x_NotFound : XcF K mg "NotFound") (i_NotFound : IsOk K (.ref (He.ga K "NotFound")) sub_NotFound) (x_RestError : XcF K mg "RestError") (i_RestError : IsOk K (.ref (He.ga K "RestError")) sub_RestError) (z_ValueError : mg "ValueError" = none) (j_ValueError : IsOk K (.type "ValueError") sub_ValueError) (n : Nat) (cdv : Value) (A : Around) (outer : List Env) (s : Shared) (H : Hp) (E : XK) (hr : Room k (A.deeper (envOfC "_law_error" (defScope T__law_error) s.heap.objs.size f cdv))) : SSs (cxOf (L2.CX P w) P w K mg base N__law_error "_law_error" (defScope T__law_error) f cdv A outer s H E) (fun c d _ H => E c d H) (defBody T__law_error) (b__law_error n) := by
  have tk : Takes (cxOf (L2.CX P w) P w K mg base N__law_error "_law_error" (defScope T__law_error) f cdv A outer s H E) (fun c d _ H => E c d H) := takes_of rfl rfl rfl rfl
  have pso : PassesOwn (model P w) (cxOf (L2.CX P w) P w K mg base N__law_error "_law_error" (defScope T__law_error) f cdv A outer s H E).A (cxOf (L2.CX P w) P w K mg base N__law_error "_law_error" (defScope T__law_error) f cdv A outer s H E).env (cxOf (L2.CX P w) P w K mg base N__law_error "_law_error" (defScope T__law_error) f cdv A outer s H E).xe := passes_of rfl
  have nd := S__law_error.nd
  exact (sss_cons (sset 1 nd (se_lst (sa_cons (by exact se_isX (ev 0) z_isinstance x_BadWay i_BadWay) (sa_cons (by exact se_isX (ev 0) z_isinstance x_BadRow i_BadRow) (sa_cons (by exact se_isX (ev 0) z_isinstance x_BadWritten i_BadWritten) sa_nil))))) (sss_cons (sset 1 nd (eadd (ev 1) (se_lst (sa_cons (by exact se_isX (ev 0) z_isinstance x_BadNumber i_BadNumber) (sa_cons (by exact se_isX (ev 0) z_isinstance x_BadText i_BadText) (sa_cons (by exact se_isX (ev 0) z_isinstance x_NotFound i_NotFound) sa_nil)))))) (sss_cons (ss_if (st_sw (sw_or (tcmp (cr_ne hr.units) (by exact se_count 1 (pv 1) se_bool) se_int) (sw_or (st_not (st_val (by exact se_isX (ev 0) z_isinstance x_RestError i_RestError))) (sw_or1 (st_not (st_val (by exact se_isXb (ev 0) z_isinstance z_ValueError (by decide +kernel) j_ValueError))))))) (sss_one (ss_ret se_str)) sss_nil) (sss_one (ss_ret (eix (se_lst (sa_cons se_str (sa_cons se_str (sa_cons se_str (sa_cons se_str (sa_cons se_str (sa_cons se_str sa_nil))))))) (by exact se_index 1 (pv 1) se_bool)))))))
theorem a__law_error {K : PySem.W.Frag} {f : Addr} {fd : FuncData} (F : FunD K "_law_error" "_law_error" (defArgs T__law_error) (defBody T__law_error) (defScope T__law_error) [] [] f fd) : Binds K fd P__law_error [] := F.bindsN fun _ _ _ _ _ _ us hl => match us, hl with | [_], _ => rfl
/-! _law_steps -/
abbrev N__law_steps : List Str := []
abbrev T__law_steps : Stmt := top 39
theorem S__law_steps : FnScope N__law_steps P__law_steps (defScope T__law_steps) := ⟨rfl, rfl, rfl, by decide +kernel, rfl, by decide +kernel, by decide +kernel⟩
def b__law_steps (n : Nat) : XS := (sRet (xLst (aCons (xTup (aCons (xC (.int 2)) (aCons (xC (.int 1)) aNil))) (aCons (xTup (aCons (xC (.int 3)) (aCons (xC (.int 1)) aNil))) (aCons (xTup (aCons (xC (.int 4)) (aCons (xC (.int 1)) aNil))) (aCons (xTup (aCons (xC (.int 4)) (aCons (xC (.int 2)) aNil))) (aCons (xTup (aCons (xC (.int 6)) (aCons (xC (.int 1)) aNil))) (aCons (xTup (aCons (xC (.int 6)) (aCons (xC (.int 2)) aNil))) (aCons (xTup (aCons (xC (.int 6)) (aCons (xC (.int 3)) aNil))) aNil)))))))))
theorem d__law_steps {P : Program} {w : World} {K : PySem.W.Frag} {mg : Str → Option Value} {base : Heap} {k : Nat} {f : Addr} (n : Nat) (cdv : Value) (A : Around) (outer : List Env) (s : Shared) (H : Hp) (E : XK) (hr : Room k (A.deeper (envOfC "_law_steps" (defScope T__law_steps) s.heap.objs.size f cdv))) : SSs (cxOf (L2.CX P w) P w K mg base N__law_steps "_law_steps" (defScope T__law_steps) f cdv A outer s H E) (fun c d _ H => E c d H) (defBody T__law_steps) (b__law_steps n) := by
  have tk : Takes (cxOf (L2.CX P w) P w K mg base N__law_steps "_law_steps" (defScope T__law_steps) f cdv A outer s H E) (fun c d _ H => E c d H) := takes_of rfl rfl rfl rfl
  have pso : PassesOwn (model P w) (cxOf (L2.CX P w) P w K mg base N__law_steps "_law_steps" (defScope T__law_steps) f cdv A outer s H E).A (cxOf (L2.CX P w) P w K mg base N__law_steps "_law_steps" (defScope T__law_steps) f cdv A outer s H E).env (cxOf (L2.CX P w) P w K mg base N__law_steps "_law_steps" (defScope T__law_steps) f cdv A outer s H E).xe := passes_of rfl
  have nd := S__law_steps.nd
  exact (sss_one (ss_ret (se_lst (sa_cons (se_tup (sa_cons se_int (sa_cons se_int sa_nil))) (sa_cons (se_tup (sa_cons se_int (sa_cons se_int sa_nil))) (sa_cons (se_tup (sa_cons se_int (sa_cons se_int sa_nil))) (sa_cons (se_tup (sa_cons se_int (sa_cons se_int sa_nil))) (sa_cons (se_tup (sa_cons se_int (sa_cons se_int sa_nil))) (sa_cons (se_tup (sa_cons se_int (sa_cons se_int sa_nil))) (sa_cons (se_tup (sa_cons se_int (sa_cons se_int sa_nil))) sa_nil))))))))))
theorem a__law_steps {K : PySem.W.Frag} {f : Addr} {fd : FuncData} (F : FunD K "_law_steps" "_law_steps" (defArgs T__law_steps) (defBody T__law_steps) (defScope T__law_steps) [] [] f fd) : Binds K fd P__law_steps [] := F.bindsN fun _ _ _ _ _ _ us hl => match us, hl with | [], _ => rfl
/-! _law_modes -/
abbrev N__law_modes : List Str := []
abbrev T__law_modes : Stmt := top 40
theorem S__law_modes : FnScope N__law_modes P__law_modes (defScope T__law_modes) := ⟨rfl, rfl, rfl, by decide +kernel, rfl, by decide +kernel, by decide +kernel⟩
def b__law_modes (n : Nat) : XS := (sRet (xLst (aCons (xC (.str "down")) (aCons (xC (.str "up")) (aCons (xC (.str "in")) (aCons (xC (.str "out")) (aCons (xC (.str "neardown")) (aCons (xC (.str "nearup")) (aCons (xC (.str "nearin")) (aCons (xC (.str "nearout")) (aCons (xC (.str "neareven")) (aCons (xC (.str "nearodd")) aNil))))))))))))
theorem d__law_modes {P : Program} {w : World} {K : PySem.W.Frag} {mg : Str → Option Value} {base : Heap} {k : Nat} {f : Addr} (n : Nat) (cdv : Value) (A : Around) (outer : List Env) (s : Shared) (H : Hp) (E : XK) (hr : Room k (A.deeper (envOfC "_law_modes" (defScope T__law_modes) s.heap.objs.size f cdv))) : SSs (cxOf (L2.CX P w) P w K mg base N__law_modes "_law_modes" (defScope T__law_modes) f cdv A outer s H E) (fun c d _ H => E c d H) (defBody T__law_modes) (b__law_modes n) := by
  have tk : Takes (cxOf (L2.CX P w) P w K mg base N__law_modes "_law_modes" (defScope T__law_modes) f cdv A outer s H E) (fun c d _ H => E c d H) := takes_of rfl rfl rfl rfl
  have pso : PassesOwn (model P w) (cxOf (L2.CX P w) P w K mg base N__law_modes "_law_modes" (defScope T__law_modes) f cdv A outer s H E).A (cxOf (L2.CX P w) P w K mg base N__law_modes "_law_modes" (defScope T__law_modes) f cdv A outer s H E).env (cxOf (L2.CX P w) P w K mg base N__law_modes "_law_modes" (defScope T__law_modes) f cdv A outer s H E).xe := passes_of rfl
  have nd := S__law_modes.nd
  exact (sss_one (ss_ret (se_lst (sa_cons se_str (sa_cons se_str (sa_cons se_str (sa_cons se_str (sa_cons se_str (sa_cons se_str (sa_cons se_str (sa_cons se_str (sa_cons se_str (sa_cons se_str sa_nil)))))))))))))
theorem a__law_modes {K : PySem.W.Frag} {f : Addr} {fd : FuncData} (F : FunD K "_law_modes" "_law_modes" (defArgs T__law_modes) (defBody T__law_modes) (defScope T__law_modes) [] [] f fd) : Binds K fd P__law_modes [] := F.bindsN fun _ _ _ _ _ _ us hl => match us, hl with | [], _ => rfl
/-! _law_way -/
abbrev N__law_way : List Str := ["_law_draws", "_law_carry"]
abbrev T__law_way : Stmt := top 41
theorem S__law_way : FnScope N__law_way P__law_way (defScope T__law_way) := ⟨rfl, rfl, rfl, by decide +kernel, rfl, by decide +kernel, by decide +kernel⟩
def b__law_way (s__law_pick : FSem) (s__law_steps : FSem) (s__law_modes : FSem) (n : Nat) : XS := (sSeq (sAsg (xCall 2 s__law_pick (aCons (xVar 0) (aCons (xLst (aCons (xC (.str "none")) (aCons (xC (.str "all")) (aCons (xC (.str "all")) (aCons (xC (.str "signs")) (aCons (xC (.str "signs")) (aCons (xC (.str "pairs")) (aCons (xC (.str "pairs")) aNil)))))))) aNil))) (gN 1)) (sRet (xOp2 oAdd (xCall 2 s__law_pick (aCons (xVar 0) (aCons (xCall0 0 s__law_steps) aNil))) (xTup (aCons (xCall 2 s__law_pick (aCons (xVar 0) (aCons (xCall0 0 s__law_modes) aNil))) (aCons (xVar 1) aNil))))))
theorem d__law_way {P : Program} {w : World} {K : PySem.W.Frag} {mg : Str → Option Value} {base : Heap} {k : Nat} {f : Addr} {s__law_pick : FSem} {s__law_steps : FSem} {s__law_modes : FSem} (c__law_pick : Cal P w K mg base k "_law_pick" P__law_pick s__law_pick) (c__law_steps : Cal P w K mg base k "_law_steps" P__law_steps s__law_steps) (c__law_modes : Cal P w K mg base k "_law_modes" P__law_modes s__law_modes) (n : Nat) (cdv : Value) (A : Around) (outer : List Env) (s : Shared) (H : Hp) (E : XK) (hr : Room k (A.deeper (envOfC "_law_way" (defScope T__law_way) s.heap.objs.size f cdv))) : SSs (cxOf (L2.CX P w) P w K mg base N__law_way "_law_way" (defScope T__law_way) f cdv A outer s H E) (fun c d _ H => E c d H) (defBody T__law_way) (b__law_way s__law_pick s__law_steps s__law_modes n) := by
  have tk : Takes (cxOf (L2.CX P w) P w K mg base N__law_way "_law_way" (defScope T__law_way) f cdv A outer s H E) (fun c d _ H => E c d H) := takes_of rfl rfl rfl rfl
  have pso : PassesOwn (model P w) (cxOf (L2.CX P w) P w K mg base N__law_way "_law_way" (defScope T__law_way) f cdv A outer s H E).A (cxOf (L2.CX P w) P w K mg base N__law_way "_law_way" (defScope T__law_way) f cdv A outer s H E).env (cxOf (L2.CX P w) P w K mg base N__law_way "_law_way" (defScope T__law_way) f cdv A outer s H E).xe := passes_of rfl
  have nd := S__law_way.nd
  exact (sss_cons (sset 1 nd (se_call c__law_pick tk hr (sa_cons (ev 0) (sa_cons (se_lst (sa_cons se_str (sa_cons se_str (sa_cons se_str (sa_cons se_str (sa_cons se_str (sa_cons se_str (sa_cons se_str sa_nil)))))))) sa_nil)))) (sss_one (ss_ret (eadd (se_call c__law_pick tk hr (sa_cons (ev 0) (sa_cons (se_call0 c__law_steps hr) sa_nil))) (se_tup (sa_cons (se_call c__law_pick tk hr (sa_cons (ev 0) (sa_cons (se_call0 c__law_modes hr) sa_nil))) (sa_cons (ev 1) sa_nil)))))))
theorem a__law_way {K : PySem.W.Frag} {f : Addr} {fd : FuncData} (F : FunD K "_law_way" "_law_way" (defArgs T__law_way) (defBody T__law_way) (defScope T__law_way) [] [] f fd) : Binds K fd P__law_way [] := F.bindsN fun _ _ _ _ _ _ us hl => match us, hl with | [_], _ => rfl
/-! _law_at -/
abbrev N__law_at : List Str := ["_law_value", "_law_step", "_law_mode", "_law_near", "_law_pair", "_law_sizes", "_law_inner", "_law_outer", "_law_far", "_law_evens", "_law_odds", "_law_k", "_law_one"]
abbrev T__law_at : Stmt := top 42
theorem S__law_at : FnScope N__law_at P__law_at (defScope T__law_at) := ⟨rfl, rfl, rfl, by decide +kernel, rfl, by decide +kernel, by decide +kernel⟩
def u__law_at_0 : XE := (xOp2 oSub (xVar 0) (xVar 11))
def v__law_at_0 : Tr.St → Out Bool := (tVal (xOp2 oEq (xOp2 oMod (xOp2 oSub (xVar 0) (xVar 11)) (xVar 1)) (xC (.int 0))))
def c__law_at_0 : XE := (xComp [11] (iRange1 (aCons (xVar 1) aNil)) (gN 11) v__law_at_0 u__law_at_0)
def u__law_at_1 : XE := (xCB absC (aCons (xVar 12) aNil))
def c__law_at_1 : XE := (xComp [12] (iSeq (xFz (xVar 4))) (gN 12) tYesO u__law_at_1)
def u__law_at_2 : XE := (xCB absC (aCons (xOp2 oSub (xVar 12) (xVar 0)) aNil))
def c__law_at_2 : XE := (xComp [12] (iSeq (xFz (xVar 4))) (gN 12) tYesO u__law_at_2)
def u__law_at_3 : XE := (xVar 12)
def v__law_at_3 : Tr.St → Out Bool := (tVal (xOp2 oEq (xOp2 oMod (xOp2 oDiv (xVar 12) (xVar 1)) (xC (.int 2))) (xC (.int 0))))
def c__law_at_3 : XE := (xComp [12] (iSeq (xFz (xVar 4))) (gN 12) v__law_at_3 u__law_at_3)
def u__law_at_4 : XE := (xVar 12)
def v__law_at_4 : Tr.St → Out Bool := (tVal (xOp2 oEq (xOp2 oMod (xOp2 oDiv (xVar 12) (xVar 1)) (xC (.int 2))) (xC (.int 1))))
def c__law_at_4 : XE := (xComp [12] (iSeq (xFz (xVar 4))) (gN 12) v__law_at_4 u__law_at_4)
def b__law_at_0 : XS := (sAsg (xOp2 oIx c__law_at_0 (xC (.int 0))) (gN 3))
def b__law_at_1 : XS := (sAsg (xIf (tVal (xOp2v oNe 3 (xVar 0))) (xLst (aCons (xVar 3) (aCons (xOp2 oAdd (xVar 3) (xVar 1)) aNil))) (xLst (aCons (xVar 3) aNil))) (gN 4))
def b__law_at_2 : XS := (sIf (tVal (xOp2 oEq (xCBw lenO 4) (xC (.int 1)))) (sRetV 3) sNext)
def b__law_at_3 : XS := (sIf (tVal (xOp2v oIn 2 (xTup (aCons (xC (.str "down")) (aCons (xC (.str "up")) aNil))))) (sRet (xIf (tVal (xOp2v oEq 2 (xC (.str "down")))) (xCB minC (aCons (xVar 4) aNil)) (xCB maxC (aCons (xVar 4) aNil)))) sNext)
def b__law_at_4 : XS := (sAsg c__law_at_1 (gN 5))
def b__law_at_5 : XS := (sPar2 6 7 (xOp2v oIx 4 (xIndex 5 (xCB minC (aCons (xVar 5) aNil)))) (xOp2v oIx 4 (xIndex 5 (xCB maxC (aCons (xVar 5) aNil)))))
def b__law_at_6 : XS := (sIf (tVal (xOp2v oIn 2 (xTup (aCons (xC (.str "in")) (aCons (xC (.str "out")) aNil))))) (sRet (xIf (tVal (xOp2v oEq 2 (xC (.str "in")))) (xVar 6) (xVar 7))) sNext)
def b__law_at_7 : XS := (sAsg c__law_at_2 (gN 8))
def b__law_at_8 : XS := (sIf (tVal (xOp2 oNe (xOp2v oIx 8 (xC (.int 0))) (xOp2v oIx 8 (xC (.int 1))))) (sRet (xOp2v oIx 4 (xIndex 8 (xCB minC (aCons (xVar 8) aNil))))) sNext)
def b__law_at_9 : XS := (sAsg c__law_at_3 (gN 9))
def b__law_at_10 : XS := (sAsg c__law_at_4 (gN 10))
def b__law_at_11 : XS := (sRet (xDSub [("neardown", (xOp2v oIx 4 (xC (.int 0)))), ("nearup", (xOp2v oIx 4 (xC (.int 1)))), ("nearin", (xVar 6)), ("nearout", (xVar 7)), ("neareven", (xOp2v oIx 9 (xC (.int 0)))), ("nearodd", (xOp2v oIx 10 (xC (.int 0))))] (xVar 2)))
def b__law_at (n : Nat) : XS := sSeq b__law_at_0 (sSeq b__law_at_1 (sSeq b__law_at_2 (sSeq b__law_at_3 (sSeq b__law_at_4 (sSeq b__law_at_5 (sSeq b__law_at_6 (sSeq b__law_at_7 (sSeq b__law_at_8 (sSeq b__law_at_9 (sSeq b__law_at_10 (b__law_at_11)))))))))))
theorem d__law_at {P : Program} {w : World} {K : PySem.W.Frag} {mg : Str → Option Value} {base : Heap} {k : Nat} {f : Addr} (z_range : mg "range" = none) (z_len : mg "len" = none) (z_min : mg "min" = none) (z_max : mg "max" = none) (z_abs : mg "abs" = none) (n : Nat) (cdv : Value) (A : Around) (outer : List Env) (s : Shared) (H : Hp) (E : XK) (hr : Room k (A.deeper (envOfC "_law_at" (defScope T__law_at) s.heap.objs.size f cdv))) : SSs (cxOf (L2.CX P w) P w K mg base N__law_at "_law_at" (defScope T__law_at) f cdv A outer s H E) (fun c d _ H => E c d H) (defBody T__law_at) (b__law_at n) := by
  have tk : Takes (cxOf (L2.CX P w) P w K mg base N__law_at "_law_at" (defScope T__law_at) f cdv A outer s H E) (fun c d _ H => E c d H) := takes_of rfl rfl rfl rfl
  have pso : PassesOwn (model P w) (cxOf (L2.CX P w) P w K mg base N__law_at "_law_at" (defScope T__law_at) f cdv A outer s H E).A (cxOf (L2.CX P w) P w K mg base N__law_at "_law_at" (defScope T__law_at) f cdv A outer s H E).env (cxOf (L2.CX P w) P w K mg base N__law_at "_law_at" (defScope T__law_at) f cdv A outer s H E).xe := passes_of rfl
  have nd := S__law_at.nd
  have hu : (A.deeper (envOfC "_law_at" (defScope T__law_at) s.heap.objs.size f cdv)).units + 65 < cLine := hu65 hr
  exact (sss_cons (sset 3 nd (eix (by exact se_lc (own := [("_law_k", 11)]) rfl nd (si_range1 z_range (sa_cons (ev 1) sa_nil)) (blkOk_by (N := N__law_at) (sc := defScope T__law_at) (by decide +kernel)) (fun _ _ _ _ _ => by exact (sgn 11 nd)) (fun _ _ _ _ _ => by exact (sts_one (tcmp (cr_eq hr.units) (emod (esub (ev 0) (ev 11)) (ev 1)) se_int))) (fun _ _ _ _ _ => by exact (esub (ev 0) (ev 11)))) se_int)) (sss_cons (sset 4 nd (se_if (tcmpv 3 (cr_ne hr.units) (pv 3) (ev 0)) (se_lst (sa_cons (ev 3) (sa_cons (eadd (ev 3) (ev 1)) sa_nil))) (se_lst (sa_cons (ev 3) sa_nil)))) (sss_cons (ss_if (tcmp (cr_eq hr.units) (se_callBw 4 call_len_seq vcw_len z_len PySem.boot_len (pv 4)) se_int) (sss_one (ss_retv 3 (pv 3))) sss_nil) (sss_cons (ss_if (tcmpv 2 (cr_in hu) (pv 2) (se_tup (sa_cons se_str (sa_cons se_str sa_nil)))) (sss_one (ss_ret (se_if (tcmpv 2 (cr_eq hr.units) (pv 2) se_str) (se_callB (cr_min rfl) vc_min z_min (by decide +kernel) (sa_cons (ev 4) sa_nil)) (se_callB (cr_max rfl) vc_max z_max (by decide +kernel) (sa_cons (ev 4) sa_nil))))) sss_nil) (sss_cons (ss_setLc 5 (own := [("_law_one", 12)]) rfl nd rfl rfl (sw_true rfl rfl rfl (by decide +kernel)) (si_list (ev 4)) (blkOk_by (N := N__law_at) (sc := defScope T__law_at) (by decide +kernel)) (fun _ _ _ _ _ => by exact (sgn 12 nd)) (fun _ _ _ _ _ => by exact sts_nil) (fun _ _ _ _ _ => by exact (se_callB call_abs vc_abs z_abs (by decide +kernel) (sa_cons (ev 12) sa_nil)))) (sss_cons (ss_par2 6 7 rfl nd rfl rfl (by decide) rfl rfl (eixv 4 (pv 4) (by exact se_index 5 (pv 5) (se_callB (cr_min rfl) vc_min z_min (by decide +kernel) (sa_cons (ev 5) sa_nil)))) (eixv 4 (pv 4) (by exact se_index 5 (pv 5) (se_callB (cr_max rfl) vc_max z_max (by decide +kernel) (sa_cons (ev 5) sa_nil))))) (sss_cons (ss_if (tcmpv 2 (cr_in hu) (pv 2) (se_tup (sa_cons se_str (sa_cons se_str sa_nil)))) (sss_one (ss_ret (se_if (tcmpv 2 (cr_eq hr.units) (pv 2) se_str) (ev 6) (ev 7)))) sss_nil) (sss_cons (ss_setLc 8 (own := [("_law_one", 12)]) rfl nd rfl rfl (sw_true rfl rfl rfl (by decide +kernel)) (si_list (ev 4)) (blkOk_by (N := N__law_at) (sc := defScope T__law_at) (by decide +kernel)) (fun _ _ _ _ _ => by exact (sgn 12 nd)) (fun _ _ _ _ _ => by exact sts_nil) (fun _ _ _ _ _ => by exact (se_callB call_abs vc_abs z_abs (by decide +kernel) (sa_cons (esub (ev 12) (ev 0)) sa_nil)))) (sss_cons (ss_if (tcmp (cr_ne hr.units) (eixv 8 (pv 8) se_int) (eixv 8 (pv 8) se_int)) (sss_one (ss_ret (eixv 4 (pv 4) (by exact se_index 8 (pv 8) (se_callB (cr_min rfl) vc_min z_min (by decide +kernel) (sa_cons (ev 8) sa_nil)))))) sss_nil) (sss_cons (ss_setLc 9 (own := [("_law_one", 12)]) rfl nd rfl rfl (sw_true rfl rfl rfl (by decide +kernel)) (si_list (ev 4)) (blkOk_by (N := N__law_at) (sc := defScope T__law_at) (by decide +kernel)) (fun _ _ _ _ _ => by exact (sgn 12 nd)) (fun _ _ _ _ _ => by exact (sts_one (tcmp (cr_eq hr.units) (emod (ediv (ev 12) (ev 1)) se_int) se_int))) (fun _ _ _ _ _ => by exact (ev 12))) (sss_cons (ss_setLc 10 (own := [("_law_one", 12)]) rfl nd rfl rfl (sw_true rfl rfl rfl (by decide +kernel)) (si_list (ev 4)) (blkOk_by (N := N__law_at) (sc := defScope T__law_at) (by decide +kernel)) (fun _ _ _ _ _ => by exact (sgn 12 nd)) (fun _ _ _ _ _ => by exact (sts_one (tcmp (cr_eq hr.units) (emod (ediv (ev 12) (ev 1)) se_int) se_int))) (fun _ _ _ _ _ => by exact (ev 12))) (sss_one (ss_ret (by exact se_dsub (hu1 hr) (sds_cons (eixv 4 (pv 4) se_int) (sds_cons (eixv 4 (pv 4) se_int) (sds_cons (ev 6) (sds_cons (ev 7) (sds_cons (eixv 9 (pv 9) se_int) (sds_cons (eixv 10 (pv 10) se_int) sds_nil)))))) (ev 2) (by decide +kernel)))))))))))))))
theorem a__law_at {K : PySem.W.Frag} {f : Addr} {fd : FuncData} (F : FunD K "_law_at" "_law_at" (defArgs T__law_at) (defBody T__law_at) (defScope T__law_at) [] [] f fd) : Binds K fd P__law_at [] := F.bindsN fun _ _ _ _ _ _ us hl => match us, hl with | [_, _, _], _ => rfl
/-! _law_bring -/
abbrev N__law_bring : List Str := ["_law_way_here", "_law_value"]
abbrev T__law_bring : Stmt := top 43
theorem S__law_bring : FnScope N__law_bring P__law_bring (defScope T__law_bring) := ⟨rfl, rfl, rfl, by decide +kernel, rfl, by decide +kernel, by decide +kernel⟩
def b__law_bring (s__law_at : FSem) (n : Nat) : XS := (sRet (xCall 3 s__law_at (aCons (xCall 3 s__law_at (aCons (xVar 1) (aCons (xOp2v oIx 0 (xC (.int 1))) (aCons (xOp2v oIx 0 (xC (.int 2))) aNil)))) (aCons (xOp2v oIx 0 (xC (.int 0))) (aCons (xOp2v oIx 0 (xC (.int 2))) aNil)))))
theorem d__law_bring {P : Program} {w : World} {K : PySem.W.Frag} {mg : Str → Option Value} {base : Heap} {k : Nat} {f : Addr} {s__law_at : FSem} (c__law_at : Cal P w K mg base k "_law_at" P__law_at s__law_at) (n : Nat) (cdv : Value) (A : Around) (outer : List Env) (s : Shared) (H : Hp) (E : XK) (hr : Room k (A.deeper (envOfC "_law_bring" (defScope T__law_bring) s.heap.objs.size f cdv))) : SSs (cxOf (L2.CX P w) P w K mg base N__law_bring "_law_bring" (defScope T__law_bring) f cdv A outer s H E) (fun c d _ H => E c d H) (defBody T__law_bring) (b__law_bring s__law_at n) := by
  have tk : Takes (cxOf (L2.CX P w) P w K mg base N__law_bring "_law_bring" (defScope T__law_bring) f cdv A outer s H E) (fun c d _ H => E c d H) := takes_of rfl rfl rfl rfl
  have pso : PassesOwn (model P w) (cxOf (L2.CX P w) P w K mg base N__law_bring "_law_bring" (defScope T__law_bring) f cdv A outer s H E).A (cxOf (L2.CX P w) P w K mg base N__law_bring "_law_bring" (defScope T__law_bring) f cdv A outer s H E).env (cxOf (L2.CX P w) P w K mg base N__law_bring "_law_bring" (defScope T__law_bring) f cdv A outer s H E).xe := passes_of rfl
  have nd := S__law_bring.nd
  exact (sss_one (ss_ret (se_call c__law_at tk hr (sa_cons (se_call c__law_at tk hr (sa_cons (ev 1) (sa_cons (eixv 0 (pv 0) se_int) (sa_cons (eixv 0 (pv 0) se_int) sa_nil)))) (sa_cons (eixv 0 (pv 0) se_int) (sa_cons (eixv 0 (pv 0) se_int) sa_nil))))))
theorem a__law_bring {K : PySem.W.Frag} {f : Addr} {fd : FuncData} (F : FunD K "_law_bring" "_law_bring" (defArgs T__law_bring) (defBody T__law_bring) (defScope T__law_bring) [] [] f fd) : Binds K fd P__law_bring [] := F.bindsN fun _ _ _ _ _ _ us hl => match us, hl with | [_, _], _ => rfl
/-! _law_write -/
abbrev N__law_write : List Str := ["_law_way_here", "_law_state", "_law_number", "_law_place", "_law_total", "_law_told", "_law_rests"]
abbrev T__law_write : Stmt := top 44
theorem S__law_write : FnScope N__law_write P__law_write (defScope T__law_write) := ⟨rfl, rfl, rfl, by decide +kernel, rfl, by decide +kernel, by decide +kernel⟩
def b__law_write (s__law_bring : FSem) (n : Nat) : XS := (sSeq (sAsg (xIf (tAndB (tVal (xOp2 oEq (xOp2v oIx 0 (xC (.int 3))) (xC (.str "signs")))) (tVal (xOp2v oLt 2 (xC (.int 0))))) (xC (.int 1)) (xC (.int 0))) (gN 3)) (sSeq (sAsg (xOp2 oAdd (xVar 2) (xOp2v oIx 1 (xVar 3))) (gN 4)) (sSeq (sAsg (xCall 2 s__law_bring (aCons (xVar 0) (aCons (xVar 4) aNil))) (gN 5)) (sSeq (sAsg (xLst (aCons (xOp2v oIx 1 (xC (.int 0))) (aCons (xOp2v oIx 1 (xC (.int 1))) aNil))) (gN 6)) (sSeq (sSetL 6 (xOp2 oSub (xVar 4) (xVar 5)) (xVar 3)) (sSeq (sIf (tVal (xOp2 oEq (xOp2v oIx 0 (xC (.int 3))) (xC (.str "none")))) (sRet (xTup (aCons (xVar 5) (aCons (xTup (aCons (xC (.int 0)) (aCons (xC (.int 0)) (aCons (xC (.int 0)) aNil)))) aNil)))) sNext) (sSeq (sIf (tVal (xOp2 oEq (xOp2v oIx 0 (xC (.int 3))) (xC (.str "pairs")))) (sRet (xTup (aCons (xVar 5) (aCons (xIf (tVal (xOp2 oEq (xOp2v oIx 1 (xC (.int 2))) (xC (.int 0)))) (xTup (aCons (xOp2v oIx 6 (xC (.int 0))) (aCons (xC (.int 0)) (aCons (xC (.int 1)) aNil)))) (xTup (aCons (xC (.int 0)) (aCons (xC (.int 0)) (aCons (xC (.int 0)) aNil))))) aNil)))) sNext) (sRet (xTup (aCons (xVar 5) (aCons (xTup (aCons (xOp2v oIx 6 (xC (.int 0))) (aCons (xOp2v oIx 6 (xC (.int 1))) (aCons (xC (.int 0)) aNil)))) aNil)))))))))))
theorem d__law_write {P : Program} {w : World} {K : PySem.W.Frag} {mg : Str → Option Value} {base : Heap} {k : Nat} {f : Addr} {s__law_bring : FSem} (c__law_bring : Cal P w K mg base k "_law_bring" P__law_bring s__law_bring) (n : Nat) (cdv : Value) (A : Around) (outer : List Env) (s : Shared) (H : Hp) (E : XK) (hr : Room k (A.deeper (envOfC "_law_write" (defScope T__law_write) s.heap.objs.size f cdv))) : SSs (cxOf (L2.CX P w) P w K mg base N__law_write "_law_write" (defScope T__law_write) f cdv A outer s H E) (fun c d _ H => E c d H) (defBody T__law_write) (b__law_write s__law_bring n) := by
  have tk : Takes (cxOf (L2.CX P w) P w K mg base N__law_write "_law_write" (defScope T__law_write) f cdv A outer s H E) (fun c d _ H => E c d H) := takes_of rfl rfl rfl rfl
  have pso : PassesOwn (model P w) (cxOf (L2.CX P w) P w K mg base N__law_write "_law_write" (defScope T__law_write) f cdv A outer s H E).A (cxOf (L2.CX P w) P w K mg base N__law_write "_law_write" (defScope T__law_write) f cdv A outer s H E).env (cxOf (L2.CX P w) P w K mg base N__law_write "_law_write" (defScope T__law_write) f cdv A outer s H E).xe := passes_of rfl
  have nd := S__law_write.nd
  exact (sss_cons (sset 3 nd (se_if (st_sw (sw_and (tcmp (cr_eq hr.units) (eixv 0 (pv 0) se_int) se_str) (sw_and1 (tcmpv 2 (cr_lt) (pv 2) se_int)))) se_int se_int)) (sss_cons (sset 4 nd (eadd (ev 2) (eixv 1 (pv 1) (ev 3)))) (sss_cons (sset 5 nd (se_call c__law_bring tk hr (sa_cons (ev 0) (sa_cons (ev 4) sa_nil)))) (sss_cons (sset 6 nd (se_lst (sa_cons (eixv 1 (pv 1) se_int) (sa_cons (eixv 1 (pv 1) se_int) sa_nil)))) (sss_cons (ss_setitem 6 (esub (ev 4) (ev 5)) (pv 6) (ev 3)) (sss_cons (ss_if (tcmp (cr_eq hr.units) (eixv 0 (pv 0) se_int) se_str) (sss_one (ss_ret (se_tup (sa_cons (ev 5) (sa_cons (se_tup (sa_cons se_int (sa_cons se_int (sa_cons se_int sa_nil)))) sa_nil))))) sss_nil) (sss_cons (ss_if (tcmp (cr_eq hr.units) (eixv 0 (pv 0) se_int) se_str) (sss_one (ss_ret (se_tup (sa_cons (ev 5) (sa_cons (se_if (tcmp (cr_eq hr.units) (eixv 1 (pv 1) se_int) se_int) (se_tup (sa_cons (eixv 6 (pv 6) se_int) (sa_cons se_int (sa_cons se_int sa_nil)))) (se_tup (sa_cons se_int (sa_cons se_int (sa_cons se_int sa_nil))))) sa_nil))))) sss_nil) (sss_one (ss_ret (se_tup (sa_cons (ev 5) (sa_cons (se_tup (sa_cons (eixv 6 (pv 6) se_int) (sa_cons (eixv 6 (pv 6) se_int) (sa_cons se_int sa_nil)))) sa_nil))))))))))))
theorem a__law_write {K : PySem.W.Frag} {f : Addr} {fd : FuncData} (F : FunD K "_law_write" "_law_write" (defArgs T__law_write) (defBody T__law_write) (defScope T__law_write) [] [] f fd) : Binds K fd P__law_write [] := F.bindsN fun _ _ _ _ _ _ us hl => match us, hl with | [_, _, _], _ => rfl
/-! _law_run -/
abbrev N__law_run : List Str := ["_law_way_here", "_law_row", "_law_told", "_law_states", "_law_number", "_law_one", "_law_after"]
abbrev T__law_run : Stmt := top 45
theorem S__law_run : FnScope N__law_run P__law_run (defScope T__law_run) := ⟨rfl, rfl, rfl, by decide +kernel, rfl, by decide +kernel, by decide +kernel⟩
def w__law_run_0 (s__law_write : FSem) : XS := (sSeq (sAsg (xCall 3 s__law_write (aCons (xVar 0) (aCons (xOp2v oIx 3 (xNeg (xC (.int 1)))) (aCons (xVar 4) aNil)))) (gTu 2 (gsCons (gN 5) (gsCons (gN 6) gsNil)))) (sSeq (sApp 2 (aCons (xVar 5) aNil)) (sApp 3 (aCons (xVar 6) aNil))))
def c__law_run_0 (s__law_write : FSem) : XS := (sFor (iSeq (xFz (xVar 1))) (gN 4) (w__law_run_0 s__law_write))
def b__law_run (s__law_write : FSem) (n : Nat) : XS := (sSeq (sPar2 2 3 (xLst aNil) (xLst (aCons (xTup (aCons (xC (.int 0)) (aCons (xC (.int 0)) (aCons (xC (.int 0)) aNil)))) aNil))) (sSeq (c__law_run_0 s__law_write) (sRet (xTup (aCons (xVar 2) (aCons (xVar 3) aNil))))))
theorem d__law_run {P : Program} {w : World} {K : PySem.W.Frag} {mg : Str → Option Value} {base : Heap} {k : Nat} {f : Addr} {s__law_write : FSem} (c__law_write : Cal P w K mg base k "_law_write" P__law_write s__law_write) (n : Nat) (cdv : Value) (A : Around) (outer : List Env) (s : Shared) (H : Hp) (E : XK) (hr : Room k (A.deeper (envOfC "_law_run" (defScope T__law_run) s.heap.objs.size f cdv))) : SSs (cxOf (L2.CX P w) P w K mg base N__law_run "_law_run" (defScope T__law_run) f cdv A outer s H E) (fun c d _ H => E c d H) (defBody T__law_run) (b__law_run s__law_write n) := by
  have tk : Takes (cxOf (L2.CX P w) P w K mg base N__law_run "_law_run" (defScope T__law_run) f cdv A outer s H E) (fun c d _ H => E c d H) := takes_of rfl rfl rfl rfl
  have pso : PassesOwn (model P w) (cxOf (L2.CX P w) P w K mg base N__law_run "_law_run" (defScope T__law_run) f cdv A outer s H E).A (cxOf (L2.CX P w) P w K mg base N__law_run "_law_run" (defScope T__law_run) f cdv A outer s H E).env (cxOf (L2.CX P w) P w K mg base N__law_run "_law_run" (defScope T__law_run) f cdv A outer s H E).xe := passes_of rfl
  have nd := S__law_run.nd
  exact (sss_cons (ss_par2 2 3 rfl nd rfl rfl (by decide) rfl rfl (se_lst sa_nil) (se_lst (sa_cons (se_tup (sa_cons se_int (sa_cons se_int (sa_cons se_int sa_nil)))) sa_nil))) (sss_cons (sfor pso rfl (si_list (ev 1)) (sgn 4 nd (vs := [4])) (sss_cons (ss_asg (se_call c__law_write tk hr (sa_cons (ev 0) (sa_cons (eixv 3 (pv 3) (se_neg se_int)) (sa_cons (ev 4) sa_nil)))) (sg_tup (ws := [5, 6]) rfl (sgs_cons (sgn 5 nd) (sgs_cons (sgn 6 nd) sgs_nil)))) (sss_cons (ss_append 2 (pv 2) (ev 5)) (sss_one (ss_append 3 (pv 3) (ev 6)))))) (sss_one (ss_ret (se_tup (sa_cons (ev 2) (sa_cons (ev 3) sa_nil)))))))
theorem a__law_run {K : PySem.W.Frag} {f : Addr} {fd : FuncData} (F : FunD K "_law_run" "_law_run" (defArgs T__law_run) (defBody T__law_run) (defScope T__law_run) [] [] f fd) : Binds K fd P__law_run [] := F.bindsN fun _ _ _ _ _ _ us hl => match us, hl with | [_, _], _ => rfl
/-! _law_call -/
abbrev N__law_call : List Str := ["_law_shown", "_law_kind", "_law_thing", "_law_found", "_law_caught", "e"]
abbrev T__law_call : Stmt := top 46
theorem S__law_call : FnScope N__law_call P__law_call (defScope T__law_call) := ⟨rfl, rfl, rfl, by decide +kernel, rfl, by decide +kernel, by decide +kernel⟩
def b__law_call (s_Desk_put : FSem) (s_Desk_undo : FSem) (s__law_error : FSem) (n : Nat) : XS := (sSeq (sAsg (xC .none) (gN 3)) (sSeq (sAsg (xC .none) (gN 4)) (sSeq (sTry 5 4 sub_RestError (sAsg (xIf (tVal (xOp2v oEq 1 (xC (.int 0)))) (xMeth "Desk" "put" 2 s_Desk_put (xVar 0) (aCons (xVar 2) aNil)) (xMeth "Desk" "undo" 1 s_Desk_undo (xVar 0) aNil)) (gN 3))) (sRet (xIf (tVal (xOp2v oIs 4 (xC .none))) (xTup (aCons (xC (.str "told")) (aCons (xVar 3) aNil))) (xTup (aCons (xC (.str "error")) (aCons (xCall 1 s__law_error (aCons (xVar 4) aNil)) aNil))))))))
theorem d__law_call {P : Program} {w : World} {K : PySem.W.Frag} {mg : Str → Option Value} {base : Heap} {k : Nat} {f : Addr} {s_Desk_put : FSem} {s_Desk_undo : FSem} {s__law_error : FSem} (x_RestError : XcF K mg "RestError") (t_RestError : SubOk K "RestError" sub_RestError) (c_Desk_put : CalM P w K mg base k "Desk" "put" P_Desk_put s_Desk_put) (c_Desk_undo : CalM P w K mg base k "Desk" "undo" P_Desk_undo s_Desk_undo) (c__law_error : Cal P w K mg base k "_law_error" P__law_error s__law_error) (n : Nat) (cdv : Value) (A : Around) (outer : List Env) (s : Shared) (H : Hp) (E : XK) (hr : Room k (A.deeper (envOfC "_law_call" (defScope T__law_call) s.heap.objs.size f cdv))) : SSs (cxOf (L2.CX P w) P w K mg base N__law_call "_law_call" (defScope T__law_call) f cdv A outer s H E) (fun c d _ H => E c d H) (defBody T__law_call) (b__law_call s_Desk_put s_Desk_undo s__law_error n) := by
  have tk : Takes (cxOf (L2.CX P w) P w K mg base N__law_call "_law_call" (defScope T__law_call) f cdv A outer s H E) (fun c d _ H => E c d H) := takes_of rfl rfl rfl rfl
  have pso : PassesOwn (model P w) (cxOf (L2.CX P w) P w K mg base N__law_call "_law_call" (defScope T__law_call) f cdv A outer s H E).A (cxOf (L2.CX P w) P w K mg base N__law_call "_law_call" (defScope T__law_call) f cdv A outer s H E).env (cxOf (L2.CX P w) P w K mg base N__law_call "_law_call" (defScope T__law_call) f cdv A outer s H E).xe := passes_of rfl
  have nd := S__law_call.nd
  exact (sss_cons (sset 3 nd se_none) (sss_cons (sset 4 nd se_none) (sss_cons (by exact ss_try 5 4 rfl rfl rfl nd rfl rfl rfl rfl (fun _ _ => (pv 5)) rfl x_RestError t_RestError tk (fun _ _ _ tk pso => by exact (sss_one (sset 3 nd (se_if (tcmpv 1 (cr_eq hr.units) (pv 1) se_int) (by exact se_meth c_Desk_put tk hr (ev 0) (sa_cons (ev 2) sa_nil)) (by exact se_meth0 c_Desk_undo tk hr (ev 0))))))) (sss_one (ss_ret (se_if (tcmpv 4 (cr_is) (pv 4) se_none) (se_tup (sa_cons se_str (sa_cons (ev 3) sa_nil))) (se_tup (sa_cons se_str (sa_cons (se_call c__law_error tk hr (sa_cons (ev 4) sa_nil)) sa_nil)))))))))
theorem a__law_call {K : PySem.W.Frag} {f : Addr} {fd : FuncData} (F : FunD K "_law_call" "_law_call" (defArgs T__law_call) (defBody T__law_call) (defScope T__law_call) [] [] f fd) : Binds K fd P__law_call [] := F.bindsN fun _ _ _ _ _ _ us hl => match us, hl with | [_, _, _], _ => rfl
/-! law -/
abbrev N_law : List Str := ["_law_script", "_law_draws", "_law_way_here", "_law_shown", "_law_line", "_law_side", "_law_turn", "_law_told", "_law_states", "_law_number", "_law_bad"]
abbrev T_law : Stmt := top 47
theorem S_law : FnScope N_law P_law (defScope T_law) := ⟨rfl, rfl, rfl, by decide +kernel, rfl, by decide +kernel, by decide +kernel⟩
def w_law_0 (s_Desk_put : FSem) (s__law_run : FSem) (s_Desk_state : FSem) (s_Desk_numbers : FSem) (s_Desk___len__ : FSem) (s_Desk_lines : FSem) (s__law_draw : FSem) (s__law_call : FSem) (s__law_write : FSem) (s__law_pick : FSem) : XS := (sSeq (sExpr (xMeth "Desk" "put" 2 s_Desk_put (xVar 5) (aCons (xOp2 oIx (xLst (aCons (xC (.int 1)) (aCons (xC (.int 1)) (aCons (xC (.int 1)) (aCons (xNeg (xC (.int 2))) aNil))))) (xOp2 oMod (xVar 6) (xC (.int 4)))) aNil))) (sSeq (sAsg (xCall 2 s__law_run (aCons (xVar 2) (aCons (xVar 4) aNil))) (gTu 2 (gsCons (gN 7) (gsCons (gN 8) gsNil)))) (sSeq (sIf (tOrB (tVal (xOp2 oNe (xMeth "Desk" "state" 1 s_Desk_state (xVar 3) aNil) (xOp2v oIx 8 (xNeg (xC (.int 1)))))) (tOrB (tVal (xOp2 oNe (xMeth "Desk" "numbers" 1 s_Desk_numbers (xVar 3) aNil) (xVar 4))) (tOrB (tVal (xOp2 oNe (xLenM "Desk" s_Desk___len__ (xVar 3)) (xCBw lenO 4))) (tVal (xOp2 oNe (xMeth "Desk" "lines" 1 s_Desk_lines (xVar 3) aNil) (xVar 7)))))) (sRet (xC (.bool false))) sNext) (sSeq (sIf (tVal (xOp2 oEq (xCall 2 s__law_draw (aCons (xVar 1) (aCons (xC (.int 4)) aNil))) (xC (.int 0)))) (sSeq (sIf (tVal (xOp2 oNe (xCall 3 s__law_call (aCons (xVar 3) (aCons (xC (.int 1)) (aCons (xC (.int 0)) aNil)))) (xIf (tVal (xOp2v oNe 4 (xLst aNil))) (xTup (aCons (xC (.str "told")) (aCons (xOp2v oIx 4 (xNeg (xC (.int 1)))) aNil))) (xTup (aCons (xC (.str "error")) (aCons (xC (.str "none")) aNil)))))) (sRet (xC (.bool false))) sNext) (sAsg (xCut (xVar 4) pNo (pSo (xNeg (xC (.int 1))))) (gN 4))) (sSeq (sAsg (xOp2 oSub (xCall 2 s__law_draw (aCons (xVar 1) (aCons (xC (.int 9)) aNil))) (xC (.int 4))) (gN 9)) (sSeq (sIf (tVal (xOp2 oNe (xCall 3 s__law_call (aCons (xVar 3) (aCons (xC (.int 0)) (aCons (xVar 9) aNil)))) (xTup (aCons (xC (.str "told")) (aCons (xOp2 oIx (xCall 3 s__law_write (aCons (xVar 2) (aCons (xOp2v oIx 8 (xNeg (xC (.int 1)))) (aCons (xVar 9) aNil)))) (xC (.int 0))) aNil))))) (sRet (xC (.bool false))) sNext) (sAsg (xOp2 oAdd (xVar 4) (xLst (aCons (xVar 9) aNil))) (gN 4))))) (sSeq (sAsg (xCall 2 s__law_pick (aCons (xVar 1) (aCons (xLst (aCons (xC .none) (aCons (xC (.int 5)) (aCons (xNeg (xC (.int 5))) (aCons (xC (.bool true)) (aCons (xC (.str "1")) (aCons (xLst (aCons (xC (.int 1)) aNil)) (aCons (xTup (aCons (xC (.int 0)) aNil)) (aCons (xC (.bool false)) (aCons (xC (.int 100)) aNil)))))))))) aNil))) (gN 10)) (sIf (tVal (xOp2 oNe (xCall 3 s__law_call (aCons (xVar 3) (aCons (xC (.int 0)) (aCons (xVar 10) aNil)))) (xTup (aCons (xC (.str "error")) (aCons (xC (.str "row")) aNil))))) (sRet (xC (.bool false))) sNext))))))
def c_law_0 (s_Desk_put : FSem) (s__law_run : FSem) (s_Desk_state : FSem) (s_Desk_numbers : FSem) (s_Desk___len__ : FSem) (s_Desk_lines : FSem) (s__law_draw : FSem) (s__law_call : FSem) (s__law_write : FSem) (s__law_pick : FSem) : XS := (sFor (iRange1 (aCons (xC (.int 16)) aNil)) (gN 6) (w_law_0 s_Desk_put s__law_run s_Desk_state s_Desk_numbers s_Desk___len__ s_Desk_lines s__law_draw s__law_call s__law_write s__law_pick))
def v_law_1 (s_Desk___len__ : FSem) : Tr.St → Out Bool := (tVal (xOp2 oLt (xLenM "Desk" s_Desk___len__ (xVar 5)) (xC (.int 100))))
def w_law_1 (s_Desk_put : FSem) : XS := (sExpr (xMeth "Desk" "put" 2 s_Desk_put (xVar 5) (aCons (xC (.int 1)) aNil)))
def c_law_1 (s_Desk_put : FSem) (s_Desk___len__ : FSem) (n : Nat) : XS := (sWhile n (v_law_1 s_Desk___len__) (w_law_1 s_Desk_put))
def b_law_0 (s__law_start : FSem) : XS := (sAsg (xCall 1 s__law_start (aCons (xVar 0) aNil)) (gN 1))
def b_law_1 (s__law_way : FSem) : XS := (sAsg (xCall 1 s__law_way (aCons (xVar 1) aNil)) (gN 2))
def b_law_2 (s_Desk___init__ : FSem) : XS := (sPar3 3 4 5 (xMake "Desk" 2 s_Desk___init__ (aCons (xVar 2) aNil)) (xLst aNil) (xMake "Desk" 2 s_Desk___init__ (aCons (xTup (aCons (xC (.int 4)) (aCons (xC (.int 1)) (aCons (xC (.str "nearup")) (aCons (xC (.str "all")) aNil))))) aNil)))
def b_law_3 (s_Desk_put : FSem) (s__law_run : FSem) (s_Desk_state : FSem) (s_Desk_numbers : FSem) (s_Desk___len__ : FSem) (s_Desk_lines : FSem) (s__law_draw : FSem) (s__law_call : FSem) (s__law_write : FSem) (s__law_pick : FSem) : XS := (c_law_0 s_Desk_put s__law_run s_Desk_state s_Desk_numbers s_Desk___len__ s_Desk_lines s__law_draw s__law_call s__law_write s__law_pick)
def b_law_4 (s_Desk_numbers : FSem) (s_Desk_lines : FSem) (s_written : FSem) : XS := (sIf (tOrB (tVal (xOp2 oNe (xMeth "Desk" "numbers" 1 s_Desk_numbers (xVar 5) aNil) (xOp2 oMul (xLst (aCons (xC (.int 1)) (aCons (xC (.int 1)) (aCons (xC (.int 1)) (aCons (xNeg (xC (.int 2))) aNil))))) (xC (.int 4))))) (tVal (xOp2 oNe (xMeth "Desk" "lines" 1 s_Desk_lines (xVar 5) aNil) (xCall 2 s_written (aCons (xTup (aCons (xC (.int 4)) (aCons (xC (.int 1)) (aCons (xC (.str "nearup")) (aCons (xC (.str "all")) aNil))))) (aCons (xOp2 oMul (xLst (aCons (xC (.int 1)) (aCons (xC (.int 1)) (aCons (xC (.int 1)) (aCons (xNeg (xC (.int 2))) aNil))))) (xC (.int 4))) aNil)))))) (sRet (xC (.bool false))) sNext)
def b_law_5 (s_Desk_put : FSem) (s_Desk___len__ : FSem) (n : Nat) : XS := (c_law_1 s_Desk_put s_Desk___len__ n)
def b_law_6 (s_Desk___len__ : FSem) (s__law_call : FSem) : XS := (sIf (tOrB (tVal (xOp2 oNe (xCall 3 s__law_call (aCons (xVar 5) (aCons (xC (.int 0)) (aCons (xC (.int 1)) aNil)))) (xTup (aCons (xC (.str "error")) (aCons (xC (.str "number")) aNil))))) (tOrB (tVal (xOp2 oNe (xCall 3 s__law_call (aCons (xVar 5) (aCons (xC (.int 0)) (aCons (xC (.int 5)) aNil)))) (xTup (aCons (xC (.str "error")) (aCons (xC (.str "row")) aNil))))) (tVal (xOp2 oNe (xLenM "Desk" s_Desk___len__ (xVar 5)) (xC (.int 100)))))) (sRet (xC (.bool false))) sNext)
def b_law_7 (s_Desk_put : FSem) (s_Desk_numbers : FSem) (s_Desk___len__ : FSem) (s_Desk_lines : FSem) (s_Desk_undo : FSem) : XS := (sRet (xAnd (xOp2 oEq (xMeth "Desk" "undo" 1 s_Desk_undo (xVar 5) aNil) (xC (.int 1))) (xAnd (xOp2 oEq (xMeth "Desk" "put" 2 s_Desk_put (xVar 5) (aCons (xNeg (xC (.int 4))) aNil)) (xOp2 oIx (xMeth "Desk" "lines" 1 s_Desk_lines (xVar 5) aNil) (xNeg (xC (.int 1))))) (xAnd (xOp2 oEq (xLenM "Desk" s_Desk___len__ (xVar 5)) (xC (.int 100))) (xOp2 oEq (xOp2 oIx (xMeth "Desk" "numbers" 1 s_Desk_numbers (xVar 5) aNil) (xNeg (xC (.int 1)))) (xNeg (xC (.int 4))))))))
def b_law (s__law_start : FSem) (s__law_way : FSem) (s_Desk___init__ : FSem) (s_Desk_put : FSem) (s__law_run : FSem) (s_Desk_state : FSem) (s_Desk_numbers : FSem) (s_Desk___len__ : FSem) (s_Desk_lines : FSem) (s__law_draw : FSem) (s__law_call : FSem) (s__law_write : FSem) (s__law_pick : FSem) (s_written : FSem) (s_Desk_undo : FSem) (n : Nat) : XS := sSeq (b_law_0 s__law_start) (sSeq (b_law_1 s__law_way) (sSeq (b_law_2 s_Desk___init__) (sSeq (b_law_3 s_Desk_put s__law_run s_Desk_state s_Desk_numbers s_Desk___len__ s_Desk_lines s__law_draw s__law_call s__law_write s__law_pick) (sSeq (b_law_4 s_Desk_numbers s_Desk_lines s_written) (sSeq (b_law_5 s_Desk_put s_Desk___len__ n) (sSeq (b_law_6 s_Desk___len__ s__law_call) ((b_law_7 s_Desk_put s_Desk_numbers s_Desk___len__ s_Desk_lines s_Desk_undo))))))))
theorem d_law {P : Program} {w : World} {K : PySem.W.Frag} {mg : Str → Option Value} {base : Heap} {k : Nat} {f : Addr} {s__law_start : FSem} {s__law_way : FSem} {s_Desk___init__ : FSem} {s_Desk_put : FSem} {s__law_run : FSem} {s_Desk_state : FSem} {s_Desk_numbers : FSem} {s_Desk___len__ : FSem} {s_Desk_lines : FSem} {s__law_draw : FSem} {s__law_call : FSem} {s__law_write : FSem} {s__law_pick : FSem} {s_written : FSem} {s_Desk_undo : FSem} (z_range : mg "range" = none) (z_len : mg "len" = none) (c__law_start : Cal P w K mg base k "_law_start" P__law_start s__law_start) (c__law_way : Cal P w K mg base k "_law_way" P__law_way s__law_way) (c_Desk : CalI P w K mg base k "Desk" P_Desk___init__ s_Desk___init__) (c_Desk_put : CalM P w K mg base k "Desk" "put" P_Desk_put s_Desk_put) (c__law_run : Cal P w K mg base k "_law_run" P__law_run s__law_run) (c_Desk_state : CalM P w K mg base k "Desk" "state" P_Desk_state s_Desk_state) (c_Desk_numbers : CalM P w K mg base k "Desk" "numbers" P_Desk_numbers s_Desk_numbers) (c_len_Desk : CalL P w K mg base k "Desk" P_Desk___len__ s_Desk___len__) (c_Desk_lines : CalM P w K mg base k "Desk" "lines" P_Desk_lines s_Desk_lines) (c__law_draw : Cal P w K mg base k "_law_draw" P__law_draw s__law_draw) (c__law_call : Cal P w K mg base k "_law_call" P__law_call s__law_call) (c__law_write : Cal P w K mg base k "_law_write" P__law_write s__law_write) (c__law_pick : Cal P w K mg base k "_law_pick" P__law_pick s__law_pick) (c_written : Cal P w K mg base k "written" P_written s_written) (c_Desk_undo : CalM P w K mg base k "Desk" "undo" P_Desk_undo s_Desk_undo) (n : Nat) (cdv : Value) (A : Around) (outer : List Env) (s : Shared) (H : Hp) (E : XK) (hr : Room k (A.deeper (envOfC "law" (defScope T_law) s.heap.objs.size f cdv))) : SSs (cxOf (L2.CX P w) P w K mg base N_law "law" (defScope T_law) f cdv A outer s H E) (fun c d _ H => E c d H) (defBody T_law) (b_law s__law_start s__law_way s_Desk___init__ s_Desk_put s__law_run s_Desk_state s_Desk_numbers s_Desk___len__ s_Desk_lines s__law_draw s__law_call s__law_write s__law_pick s_written s_Desk_undo n) := by
  have tk : Takes (cxOf (L2.CX P w) P w K mg base N_law "law" (defScope T_law) f cdv A outer s H E) (fun c d _ H => E c d H) := takes_of rfl rfl rfl rfl
  have pso : PassesOwn (model P w) (cxOf (L2.CX P w) P w K mg base N_law "law" (defScope T_law) f cdv A outer s H E).A (cxOf (L2.CX P w) P w K mg base N_law "law" (defScope T_law) f cdv A outer s H E).env (cxOf (L2.CX P w) P w K mg base N_law "law" (defScope T_law) f cdv A outer s H E).xe := passes_of rfl
  have nd := S_law.nd
  exact (sss_cons (sset 1 nd (se_call c__law_start tk hr (sa_cons (ev 0) sa_nil))) (sss_cons (sset 2 nd (se_call c__law_way tk hr (sa_cons (ev 1) sa_nil))) (sss_cons (ss_par3 3 4 5 rfl nd rfl rfl rfl (by decide) (by decide) (by decide) rfl rfl rfl (by exact se_make c_Desk tk hr (sa_cons (ev 2) sa_nil)) (se_lst sa_nil) (by exact se_make c_Desk tk hr (sa_cons (se_tup (sa_cons se_int (sa_cons se_int (sa_cons se_str (sa_cons se_str sa_nil))))) sa_nil))) (sss_cons (sfor pso rfl (si_range1 z_range (sa_cons se_int sa_nil)) (sgn 6 nd (vs := [6])) (sss_cons (ss_expr (by exact se_meth c_Desk_put tk hr (ev 5) (sa_cons (eix (se_lst (sa_cons se_int (sa_cons se_int (sa_cons se_int (sa_cons (se_neg se_int) sa_nil))))) (emod (ev 6) se_int)) sa_nil))) (sss_cons (ss_asg (se_call c__law_run tk hr (sa_cons (ev 2) (sa_cons (ev 4) sa_nil))) (sg_tup (ws := [7, 8]) rfl (sgs_cons (sgn 7 nd) (sgs_cons (sgn 8 nd) sgs_nil)))) (sss_cons (ss_if (st_sw (sw_or (tcmp (cr_ne hr.units) (by exact se_meth0 c_Desk_state tk hr (ev 3)) (eixv 8 (pv 8) (se_neg se_int))) (sw_or (tcmp (cr_ne hr.units) (by exact se_meth0 c_Desk_numbers tk hr (ev 3)) (ev 4)) (sw_or (tcmp (cr_ne hr.units) (by exact se_lenL c_len_Desk hr z_len (ev 3)) (se_callBw 4 call_len_seq vcw_len z_len PySem.boot_len (pv 4))) (sw_or1 (tcmp (cr_ne hr.units) (by exact se_meth0 c_Desk_lines tk hr (ev 3)) (ev 7))))))) (sss_one (ss_ret se_bool)) sss_nil) (sss_cons (ss_if (tcmp (cr_eq hr.units) (se_call c__law_draw tk hr (sa_cons (ev 1) (sa_cons se_int sa_nil))) se_int) (sss_cons (ss_if (tcmp (cr_ne hr.units) (se_call c__law_call tk hr (sa_cons (ev 3) (sa_cons se_int (sa_cons se_int sa_nil)))) (se_if (tcmpv 4 (cr_ne hr.units) (pv 4) (se_lst sa_nil)) (se_tup (sa_cons se_str (sa_cons (eixv 4 (pv 4) (se_neg se_int)) sa_nil))) (se_tup (sa_cons se_str (sa_cons se_str sa_nil))))) (sss_one (ss_ret se_bool)) sss_nil) (sss_one (sset 4 nd (se_cut (ev 4) sp_none (sp_some (se_neg se_int)))))) (sss_cons (sset 9 nd (esub (se_call c__law_draw tk hr (sa_cons (ev 1) (sa_cons se_int sa_nil))) se_int)) (sss_cons (ss_if (tcmp (cr_ne hr.units) (se_call c__law_call tk hr (sa_cons (ev 3) (sa_cons se_int (sa_cons (ev 9) sa_nil)))) (se_tup (sa_cons se_str (sa_cons (eix (se_call c__law_write tk hr (sa_cons (ev 2) (sa_cons (eixv 8 (pv 8) (se_neg se_int)) (sa_cons (ev 9) sa_nil)))) se_int) sa_nil)))) (sss_one (ss_ret se_bool)) sss_nil) (sss_one (sset 4 nd (eadd (ev 4) (se_lst (sa_cons (ev 9) sa_nil)))))))) (sss_cons (sset 10 nd (se_call c__law_pick tk hr (sa_cons (ev 1) (sa_cons (se_lst (sa_cons se_none (sa_cons se_int (sa_cons (se_neg se_int) (sa_cons se_bool (sa_cons se_str (sa_cons (se_lst (sa_cons se_int sa_nil)) (sa_cons (se_tup (sa_cons se_int sa_nil)) (sa_cons se_bool (sa_cons se_int sa_nil)))))))))) sa_nil)))) (sss_one (ss_if (tcmp (cr_ne hr.units) (se_call c__law_call tk hr (sa_cons (ev 3) (sa_cons se_int (sa_cons (ev 10) sa_nil)))) (se_tup (sa_cons se_str (sa_cons se_str sa_nil)))) (sss_one (ss_ret se_bool)) sss_nil)))))))) (sss_cons (ss_if (st_sw (sw_or (tcmp (cr_ne hr.units) (by exact se_meth0 c_Desk_numbers tk hr (ev 5)) (emul (se_lst (sa_cons se_int (sa_cons se_int (sa_cons se_int (sa_cons (se_neg se_int) sa_nil))))) se_int)) (sw_or1 (tcmp (cr_ne hr.units) (by exact se_meth0 c_Desk_lines tk hr (ev 5)) (se_call c_written tk hr (sa_cons (se_tup (sa_cons se_int (sa_cons se_int (sa_cons se_str (sa_cons se_str sa_nil))))) (sa_cons (emul (se_lst (sa_cons se_int (sa_cons se_int (sa_cons se_int (sa_cons (se_neg se_int) sa_nil))))) se_int) sa_nil))))))) (sss_one (ss_ret se_bool)) sss_nil) (sss_cons (ss_while n pso (tcmp (cr_lt) (by exact se_lenL c_len_Desk hr z_len (ev 5)) se_int) (sss_one (ss_expr (by exact se_meth c_Desk_put tk hr (ev 5) (sa_cons se_int sa_nil))))) (sss_cons (ss_if (st_sw (sw_or (tcmp (cr_ne hr.units) (se_call c__law_call tk hr (sa_cons (ev 5) (sa_cons se_int (sa_cons se_int sa_nil)))) (se_tup (sa_cons se_str (sa_cons se_str sa_nil)))) (sw_or (tcmp (cr_ne hr.units) (se_call c__law_call tk hr (sa_cons (ev 5) (sa_cons se_int (sa_cons se_int sa_nil)))) (se_tup (sa_cons se_str (sa_cons se_str sa_nil)))) (sw_or1 (tcmp (cr_ne hr.units) (by exact se_lenL c_len_Desk hr z_len (ev 5)) se_int))))) (sss_one (ss_ret se_bool)) sss_nil) (sss_one (ss_ret (se_and (ecmp (cr_eq hr.units) (by exact se_meth0 c_Desk_undo tk hr (ev 5)) se_int) (se_and (ecmp (cr_eq hr.units) (by exact se_meth c_Desk_put tk hr (ev 5) (sa_cons (se_neg se_int) sa_nil)) (eix (by exact se_meth0 c_Desk_lines tk hr (ev 5)) (se_neg se_int))) (se_and (ecmp (cr_eq hr.units) (by exact se_lenL c_len_Desk hr z_len (ev 5)) se_int) (se_one (ecmp (cr_eq hr.units) (eix (by exact se_meth0 c_Desk_numbers tk hr (ev 5)) (se_neg se_int)) (se_neg se_int)))))))))))))))
theorem a_law {K : PySem.W.Frag} {f : Addr} {fd : FuncData} (F : FunD K "law" "law" (defArgs T_law) (defBody T_law) (defScope T_law) [] [] f fd) : Binds K fd P_law [] := F.bindsN fun _ _ _ _ _ _ us hl => match us, hl with | [_], _ => rfl
/-! Desk___init__ -/
abbrev N_Desk___init__ : List Str := ["self", "way"]
abbrev T_Desk___init__ : Stmt := inClass (top 30) 0
theorem S_Desk___init__ : FnScope N_Desk___init__ P_Desk___init__ (defScope T_Desk___init__) := ⟨rfl, rfl, rfl, by decide +kernel, rfl, by decide +kernel, by decide +kernel⟩
def b_Desk___init__ (s_check_way : FSem) (n : Nat) : XS := (sSeq (sExpr (xCall 1 s_check_way (aCons (xVar 1) aNil))) (sSeq (sSetF "Desk" (xVar 0) "way" (xVar 1)) (sSeq (sSetF "Desk" (xVar 0) "taken" (xLst aNil)) (sSeq (sSetF "Desk" (xVar 0) "told" (xLst aNil)) (sSetF "Desk" (xVar 0) "states" (xLst (aCons (xC k_START) aNil)))))))
theorem d_Desk___init__ {P : Program} {w : World} {K : PySem.W.Frag} {mg : Str → Option Value} {base : Heap} {k : Nat} {f : Addr} {s_check_way : FSem} (k_Desk : Cls K (He.ga K "Desk")) (n_Desk_way : NoAttr K (He.ga K "Desk") "way") (n_Desk_taken : NoAttr K (He.ga K "Desk") "taken") (n_Desk_told : NoAttr K (He.ga K "Desk") "told") (n_Desk_states : NoAttr K (He.ga K "Desk") "states") (g_START : GC K mg "START" k_START) (c_check_way : Cal P w K mg base k "check_way" P_check_way s_check_way) (n : Nat) (cdv : Value) (A : Around) (outer : List Env) (s : Shared) (H : Hp) (E : XK) (hr : Room k (A.deeper (envOfC "Desk.__init__" (defScope T_Desk___init__) s.heap.objs.size f cdv))) : SSs (cxOf (L2.CX P w) P w K mg base N_Desk___init__ "Desk.__init__" (defScope T_Desk___init__) f cdv A outer s H E) (fun c d _ H => E c d H) (defBody T_Desk___init__) (b_Desk___init__ s_check_way n) := by
  have tk : Takes (cxOf (L2.CX P w) P w K mg base N_Desk___init__ "Desk.__init__" (defScope T_Desk___init__) f cdv A outer s H E) (fun c d _ H => E c d H) := takes_of rfl rfl rfl rfl
  have pso : PassesOwn (model P w) (cxOf (L2.CX P w) P w K mg base N_Desk___init__ "Desk.__init__" (defScope T_Desk___init__) f cdv A outer s H E).A (cxOf (L2.CX P w) P w K mg base N_Desk___init__ "Desk.__init__" (defScope T_Desk___init__) f cdv A outer s H E).env (cxOf (L2.CX P w) P w K mg base N_Desk___init__ "Desk.__init__" (defScope T_Desk___init__) f cdv A outer s H E).xe := passes_of rfl
  have nd := S_Desk___init__.nd
  exact (sss_cons (ss_expr (se_call c_check_way tk hr (sa_cons (ev 1) sa_nil))) (sss_cons (by exact ss_setF k_Desk n_Desk_way (ev 0) (ev 1)) (sss_cons (by exact ss_setF k_Desk n_Desk_taken (ev 0) (se_lst sa_nil)) (sss_cons (by exact ss_setF k_Desk n_Desk_told (ev 0) (se_lst sa_nil)) (sss_one (by exact ss_setF k_Desk n_Desk_states (ev 0) (se_lst (sa_cons (egc g_START) sa_nil))))))))
theorem a_Desk___init__ {K : PySem.W.Frag} {f : Addr} {fd : FuncData} (F : FunD K "__init__" "Desk.__init__" (defArgs T_Desk___init__) (defBody T_Desk___init__) (defScope T_Desk___init__) [] [] f fd) : Binds K fd P_Desk___init__ [] := F.bindsN fun _ _ _ _ _ _ us hl => match us, hl with | [_, _], _ => rfl
/-! Desk___len__ -/
abbrev N_Desk___len__ : List Str := ["self"]
abbrev T_Desk___len__ : Stmt := inClass (top 30) 1
theorem S_Desk___len__ : FnScope N_Desk___len__ P_Desk___len__ (defScope T_Desk___len__) := ⟨rfl, rfl, rfl, by decide +kernel, rfl, by decide +kernel, by decide +kernel⟩
def b_Desk___len__ (n : Nat) : XS := (sRet (xLenV lenO (xFld "Desk" (xVar 0) "taken")))
theorem d_Desk___len__ {P : Program} {w : World} {K : PySem.W.Frag} {mg : Str → Option Value} {base : Heap} {k : Nat} {f : Addr} (z_len : mg "len" = none) (k_Desk : Cls K (He.ga K "Desk")) (n_Desk_taken : NoAttr K (He.ga K "Desk") "taken") (n : Nat) (cdv : Value) (A : Around) (outer : List Env) (s : Shared) (H : Hp) (E : XK) (hr : Room k (A.deeper (envOfC "Desk.__len__" (defScope T_Desk___len__) s.heap.objs.size f cdv))) : SSs (cxOf (L2.CX P w) P w K mg base N_Desk___len__ "Desk.__len__" (defScope T_Desk___len__) f cdv A outer s H E) (fun c d _ H => E c d H) (defBody T_Desk___len__) (b_Desk___len__ n) := by
  have tk : Takes (cxOf (L2.CX P w) P w K mg base N_Desk___len__ "Desk.__len__" (defScope T_Desk___len__) f cdv A outer s H E) (fun c d _ H => E c d H) := takes_of rfl rfl rfl rfl
  have pso : PassesOwn (model P w) (cxOf (L2.CX P w) P w K mg base N_Desk___len__ "Desk.__len__" (defScope T_Desk___len__) f cdv A outer s H E).A (cxOf (L2.CX P w) P w K mg base N_Desk___len__ "Desk.__len__" (defScope T_Desk___len__) f cdv A outer s H E).env (cxOf (L2.CX P w) P w K mg base N_Desk___len__ "Desk.__len__" (defScope T_Desk___len__) f cdv A outer s H E).xe := passes_of rfl
  have nd := S_Desk___len__.nd
  exact (sss_one (ss_ret (by exact se_callV call_len_seq vcw_len z_len PySem.boot_len (by exact se_fld k_Desk n_Desk_taken (ev 0)))))
theorem a_Desk___len__ {K : PySem.W.Frag} {f : Addr} {fd : FuncData} (F : FunD K "__len__" "Desk.__len__" (defArgs T_Desk___len__) (defBody T_Desk___len__) (defScope T_Desk___len__) [] [] f fd) : Binds K fd P_Desk___len__ [] := F.bindsN fun _ _ _ _ _ _ us hl => match us, hl with | [_], _ => rfl
/-! Desk_put -/
abbrev N_Desk_put : List Str := ["self", "number", "told", "after"]
abbrev T_Desk_put : Stmt := inClass (top 30) 2
theorem S_Desk_put : FnScope N_Desk_put P_Desk_put (defScope T_Desk_put) := ⟨rfl, rfl, rfl, by decide +kernel, rfl, by decide +kernel, by decide +kernel⟩
def b_Desk_put (s_check_number : FSem) (s_write : FSem) (n : Nat) : XS := (sSeq (sExpr (xCall 1 s_check_number (aCons (xVar 1) aNil))) (sSeq (sIf (tVal (xOp2 oEq (xLenV lenO (xFld "Desk" (xVar 0) "taken")) (xC k_MOST_TAKEN))) (sRaise "BadNumber") sNext) (sSeq (sAsg (xCall 3 s_write (aCons (xFld "Desk" (xVar 0) "way") (aCons (xOpG oIxX (xFld "Desk" (xVar 0) "states") (xNeg (xC (.int 1)))) (aCons (xVar 1) aNil)))) (gTu 2 (gsCons (gN 2) (gsCons (gN 3) gsNil)))) (sSeq (sAppV (xFld "Desk" (xVar 0) "taken") (aCons (xVar 1) aNil)) (sSeq (sAppV (xFld "Desk" (xVar 0) "told") (aCons (xVar 2) aNil)) (sSeq (sAppV (xFld "Desk" (xVar 0) "states") (aCons (xVar 3) aNil)) (sRetV 2)))))))
theorem d_Desk_put {P : Program} {w : World} {K : PySem.W.Frag} {mg : Str → Option Value} {base : Heap} {k : Nat} {f : Addr} {s_check_number : FSem} {s_write : FSem} (z_len : mg "len" = none) (k_Desk : Cls K (He.ga K "Desk")) (n_Desk_taken : NoAttr K (He.ga K "Desk") "taken") (g_MOST_TAKEN : GC K mg "MOST_TAKEN" k_MOST_TAKEN) (x_BadNumber : XcF K mg "BadNumber") (n_Desk_way : NoAttr K (He.ga K "Desk") "way") (n_Desk_states : NoAttr K (He.ga K "Desk") "states") (n_Desk_told : NoAttr K (He.ga K "Desk") "told") (c_check_number : Cal P w K mg base k "check_number" P_check_number s_check_number) (c_write : Cal P w K mg base k "write" P_write s_write) (n : Nat) (cdv : Value) (A : Around) (outer : List Env) (s : Shared) (H : Hp) (E : XK) (hr : Room k (A.deeper (envOfC "Desk.put" (defScope T_Desk_put) s.heap.objs.size f cdv))) : SSs (cxOf (L2.CX P w) P w K mg base N_Desk_put "Desk.put" (defScope T_Desk_put) f cdv A outer s H E) (fun c d _ H => E c d H) (defBody T_Desk_put) (b_Desk_put s_check_number s_write n) := by
  have tk : Takes (cxOf (L2.CX P w) P w K mg base N_Desk_put "Desk.put" (defScope T_Desk_put) f cdv A outer s H E) (fun c d _ H => E c d H) := takes_of rfl rfl rfl rfl
  have pso : PassesOwn (model P w) (cxOf (L2.CX P w) P w K mg base N_Desk_put "Desk.put" (defScope T_Desk_put) f cdv A outer s H E).A (cxOf (L2.CX P w) P w K mg base N_Desk_put "Desk.put" (defScope T_Desk_put) f cdv A outer s H E).env (cxOf (L2.CX P w) P w K mg base N_Desk_put "Desk.put" (defScope T_Desk_put) f cdv A outer s H E).xe := passes_of rfl
  have nd := S_Desk_put.nd
  have hu : (A.deeper (envOfC "Desk.put" (defScope T_Desk_put) s.heap.objs.size f cdv)).units + 65 < cLine := hu65 hr
  exact (sss_cons (ss_expr (se_call c_check_number tk hr (sa_cons (ev 1) sa_nil))) (sss_cons (ss_if (tcmp (cr_eq hr.units) (by exact se_callV call_len_seq vcw_len z_len PySem.boot_len (by exact se_fld k_Desk n_Desk_taken (ev 0))) (egc g_MOST_TAKEN)) (sss_one (sraise x_BadNumber rfl tk)) sss_nil) (sss_cons (ss_asg (se_call c_write tk hr (sa_cons (by exact se_fld k_Desk n_Desk_way (ev 0)) (sa_cons (by exact se_ixV hu (by exact se_fld k_Desk n_Desk_states (ev 0)) (se_neg se_int)) (sa_cons (ev 1) sa_nil)))) (sg_tup (ws := [2, 3]) rfl (sgs_cons (sgn 2 nd) (sgs_cons (sgn 3 nd) sgs_nil)))) (sss_cons (by exact ss_appV (by exact se_fld k_Desk n_Desk_taken (ev 0)) (ev 1)) (sss_cons (by exact ss_appV (by exact se_fld k_Desk n_Desk_told (ev 0)) (ev 2)) (sss_cons (by exact ss_appV (by exact se_fld k_Desk n_Desk_states (ev 0)) (ev 3)) (sss_one (ss_retv 2 (pv 2)))))))))
theorem a_Desk_put {K : PySem.W.Frag} {f : Addr} {fd : FuncData} (F : FunD K "put" "Desk.put" (defArgs T_Desk_put) (defBody T_Desk_put) (defScope T_Desk_put) [] [] f fd) : Binds K fd P_Desk_put [] := F.bindsN fun _ _ _ _ _ _ us hl => match us, hl with | [_, _], _ => rfl
/-! Desk_state -/
abbrev N_Desk_state : List Str := ["self"]
abbrev T_Desk_state : Stmt := inClass (top 30) 3
theorem S_Desk_state : FnScope N_Desk_state P_Desk_state (defScope T_Desk_state) := ⟨rfl, rfl, rfl, by decide +kernel, rfl, by decide +kernel, by decide +kernel⟩
def b_Desk_state (n : Nat) : XS := (sRet (xOpG oIxX (xFld "Desk" (xVar 0) "states") (xNeg (xC (.int 1)))))
theorem d_Desk_state {P : Program} {w : World} {K : PySem.W.Frag} {mg : Str → Option Value} {base : Heap} {k : Nat} {f : Addr} (k_Desk : Cls K (He.ga K "Desk")) (n_Desk_states : NoAttr K (He.ga K "Desk") "states") (n : Nat) (cdv : Value) (A : Around) (outer : List Env) (s : Shared) (H : Hp) (E : XK) (hr : Room k (A.deeper (envOfC "Desk.state" (defScope T_Desk_state) s.heap.objs.size f cdv))) : SSs (cxOf (L2.CX P w) P w K mg base N_Desk_state "Desk.state" (defScope T_Desk_state) f cdv A outer s H E) (fun c d _ H => E c d H) (defBody T_Desk_state) (b_Desk_state n) := by
  have tk : Takes (cxOf (L2.CX P w) P w K mg base N_Desk_state "Desk.state" (defScope T_Desk_state) f cdv A outer s H E) (fun c d _ H => E c d H) := takes_of rfl rfl rfl rfl
  have pso : PassesOwn (model P w) (cxOf (L2.CX P w) P w K mg base N_Desk_state "Desk.state" (defScope T_Desk_state) f cdv A outer s H E).A (cxOf (L2.CX P w) P w K mg base N_Desk_state "Desk.state" (defScope T_Desk_state) f cdv A outer s H E).env (cxOf (L2.CX P w) P w K mg base N_Desk_state "Desk.state" (defScope T_Desk_state) f cdv A outer s H E).xe := passes_of rfl
  have nd := S_Desk_state.nd
  have hu : (A.deeper (envOfC "Desk.state" (defScope T_Desk_state) s.heap.objs.size f cdv)).units + 65 < cLine := hu65 hr
  exact (sss_one (ss_ret (by exact se_ixV hu (by exact se_fld k_Desk n_Desk_states (ev 0)) (se_neg se_int))))
theorem a_Desk_state {K : PySem.W.Frag} {f : Addr} {fd : FuncData} (F : FunD K "state" "Desk.state" (defArgs T_Desk_state) (defBody T_Desk_state) (defScope T_Desk_state) [] [] f fd) : Binds K fd P_Desk_state [] := F.bindsN fun _ _ _ _ _ _ us hl => match us, hl with | [_], _ => rfl
/-! Desk_numbers -/
abbrev N_Desk_numbers : List Str := ["self"]
abbrev T_Desk_numbers : Stmt := inClass (top 30) 4
theorem S_Desk_numbers : FnScope N_Desk_numbers P_Desk_numbers (defScope T_Desk_numbers) := ⟨rfl, rfl, rfl, by decide +kernel, rfl, by decide +kernel, by decide +kernel⟩
def b_Desk_numbers (n : Nat) : XS := (sRet (xListV (xFld "Desk" (xVar 0) "taken")))
theorem d_Desk_numbers {P : Program} {w : World} {K : PySem.W.Frag} {mg : Str → Option Value} {base : Heap} {k : Nat} {f : Addr} (z_list : mg "list" = none) (k_Desk : Cls K (He.ga K "Desk")) (n_Desk_taken : NoAttr K (He.ga K "Desk") "taken") (n : Nat) (cdv : Value) (A : Around) (outer : List Env) (s : Shared) (H : Hp) (E : XK) (hr : Room k (A.deeper (envOfC "Desk.numbers" (defScope T_Desk_numbers) s.heap.objs.size f cdv))) : SSs (cxOf (L2.CX P w) P w K mg base N_Desk_numbers "Desk.numbers" (defScope T_Desk_numbers) f cdv A outer s H E) (fun c d _ H => E c d H) (defBody T_Desk_numbers) (b_Desk_numbers n) := by
  have tk : Takes (cxOf (L2.CX P w) P w K mg base N_Desk_numbers "Desk.numbers" (defScope T_Desk_numbers) f cdv A outer s H E) (fun c d _ H => E c d H) := takes_of rfl rfl rfl rfl
  have pso : PassesOwn (model P w) (cxOf (L2.CX P w) P w K mg base N_Desk_numbers "Desk.numbers" (defScope T_Desk_numbers) f cdv A outer s H E).A (cxOf (L2.CX P w) P w K mg base N_Desk_numbers "Desk.numbers" (defScope T_Desk_numbers) f cdv A outer s H E).env (cxOf (L2.CX P w) P w K mg base N_Desk_numbers "Desk.numbers" (defScope T_Desk_numbers) f cdv A outer s H E).xe := passes_of rfl
  have nd := S_Desk_numbers.nd
  exact (sss_one (ss_ret (by exact se_listV z_list (by exact se_fld k_Desk n_Desk_taken (ev 0)))))
theorem a_Desk_numbers {K : PySem.W.Frag} {f : Addr} {fd : FuncData} (F : FunD K "numbers" "Desk.numbers" (defArgs T_Desk_numbers) (defBody T_Desk_numbers) (defScope T_Desk_numbers) [] [] f fd) : Binds K fd P_Desk_numbers [] := F.bindsN fun _ _ _ _ _ _ us hl => match us, hl with | [_], _ => rfl
/-! Desk_lines -/
abbrev N_Desk_lines : List Str := ["self"]
abbrev T_Desk_lines : Stmt := inClass (top 30) 5
theorem S_Desk_lines : FnScope N_Desk_lines P_Desk_lines (defScope T_Desk_lines) := ⟨rfl, rfl, rfl, by decide +kernel, rfl, by decide +kernel, by decide +kernel⟩
def b_Desk_lines (n : Nat) : XS := (sRet (xListV (xFld "Desk" (xVar 0) "told")))
theorem d_Desk_lines {P : Program} {w : World} {K : PySem.W.Frag} {mg : Str → Option Value} {base : Heap} {k : Nat} {f : Addr} (z_list : mg "list" = none) (k_Desk : Cls K (He.ga K "Desk")) (n_Desk_told : NoAttr K (He.ga K "Desk") "told") (n : Nat) (cdv : Value) (A : Around) (outer : List Env) (s : Shared) (H : Hp) (E : XK) (hr : Room k (A.deeper (envOfC "Desk.lines" (defScope T_Desk_lines) s.heap.objs.size f cdv))) : SSs (cxOf (L2.CX P w) P w K mg base N_Desk_lines "Desk.lines" (defScope T_Desk_lines) f cdv A outer s H E) (fun c d _ H => E c d H) (defBody T_Desk_lines) (b_Desk_lines n) := by
  have tk : Takes (cxOf (L2.CX P w) P w K mg base N_Desk_lines "Desk.lines" (defScope T_Desk_lines) f cdv A outer s H E) (fun c d _ H => E c d H) := takes_of rfl rfl rfl rfl
  have pso : PassesOwn (model P w) (cxOf (L2.CX P w) P w K mg base N_Desk_lines "Desk.lines" (defScope T_Desk_lines) f cdv A outer s H E).A (cxOf (L2.CX P w) P w K mg base N_Desk_lines "Desk.lines" (defScope T_Desk_lines) f cdv A outer s H E).env (cxOf (L2.CX P w) P w K mg base N_Desk_lines "Desk.lines" (defScope T_Desk_lines) f cdv A outer s H E).xe := passes_of rfl
  have nd := S_Desk_lines.nd
  exact (sss_one (ss_ret (by exact se_listV z_list (by exact se_fld k_Desk n_Desk_told (ev 0)))))
theorem a_Desk_lines {K : PySem.W.Frag} {f : Addr} {fd : FuncData} (F : FunD K "lines" "Desk.lines" (defArgs T_Desk_lines) (defBody T_Desk_lines) (defScope T_Desk_lines) [] [] f fd) : Binds K fd P_Desk_lines [] := F.bindsN fun _ _ _ _ _ _ us hl => match us, hl with | [_], _ => rfl
/-! Desk_undo -/
abbrev N_Desk_undo : List Str := ["self"]
abbrev T_Desk_undo : Stmt := inClass (top 30) 6
theorem S_Desk_undo : FnScope N_Desk_undo P_Desk_undo (defScope T_Desk_undo) := ⟨rfl, rfl, rfl, by decide +kernel, rfl, by decide +kernel, by decide +kernel⟩
def b_Desk_undo (n : Nat) : XS := (sSeq (sIf (tVal (xOpG oEq (xFld "Desk" (xVar 0) "taken") (xLst aNil))) (sRaise "NotFound") sNext) (sSeq (sExpr (xPopV (xFld "Desk" (xVar 0) "states"))) (sSeq (sExpr (xPopV (xFld "Desk" (xVar 0) "told"))) (sRet (xPopV (xFld "Desk" (xVar 0) "taken"))))))
theorem d_Desk_undo {P : Program} {w : World} {K : PySem.W.Frag} {mg : Str → Option Value} {base : Heap} {k : Nat} {f : Addr} (k_Desk : Cls K (He.ga K "Desk")) (n_Desk_taken : NoAttr K (He.ga K "Desk") "taken") (x_NotFound : XcF K mg "NotFound") (n_Desk_states : NoAttr K (He.ga K "Desk") "states") (n_Desk_told : NoAttr K (He.ga K "Desk") "told") (n : Nat) (cdv : Value) (A : Around) (outer : List Env) (s : Shared) (H : Hp) (E : XK) (hr : Room k (A.deeper (envOfC "Desk.undo" (defScope T_Desk_undo) s.heap.objs.size f cdv))) : SSs (cxOf (L2.CX P w) P w K mg base N_Desk_undo "Desk.undo" (defScope T_Desk_undo) f cdv A outer s H E) (fun c d _ H => E c d H) (defBody T_Desk_undo) (b_Desk_undo n) := by
  have tk : Takes (cxOf (L2.CX P w) P w K mg base N_Desk_undo "Desk.undo" (defScope T_Desk_undo) f cdv A outer s H E) (fun c d _ H => E c d H) := takes_of rfl rfl rfl rfl
  have pso : PassesOwn (model P w) (cxOf (L2.CX P w) P w K mg base N_Desk_undo "Desk.undo" (defScope T_Desk_undo) f cdv A outer s H E).A (cxOf (L2.CX P w) P w K mg base N_Desk_undo "Desk.undo" (defScope T_Desk_undo) f cdv A outer s H E).env (cxOf (L2.CX P w) P w K mg base N_Desk_undo "Desk.undo" (defScope T_Desk_undo) f cdv A outer s H E).xe := passes_of rfl
  have nd := S_Desk_undo.nd
  exact (sss_cons (ss_if (by exact st_cmpG (cr_eq hr.units) (by exact se_fld k_Desk n_Desk_taken (ev 0)) (se_lst sa_nil)) (sss_one (sraise x_NotFound rfl tk)) sss_nil) (sss_cons (ss_expr (by exact se_popV (by exact se_fld k_Desk n_Desk_states (ev 0)))) (sss_cons (ss_expr (by exact se_popV (by exact se_fld k_Desk n_Desk_told (ev 0)))) (sss_one (ss_ret (by exact se_popV (by exact se_fld k_Desk n_Desk_taken (ev 0))))))))
theorem a_Desk_undo {K : PySem.W.Frag} {f : Addr} {fd : FuncData} (F : FunD K "undo" "Desk.undo" (defArgs T_Desk_undo) (defBody T_Desk_undo) (defScope T_Desk_undo) [] [] f fd) : Binds K fd P_Desk_undo [] := F.bindsN fun _ _ _ _ _ _ us hl => match us, hl with | [_], _ => rfl
def s_is_int : FSem := fun os g => bodyOut (b_is_int 4000) N_is_int.length os g
def s_nearer : FSem := fun os g => bodyOut (b_nearer 4000) N_nearer.length os g
def s_brought_to : FSem := fun os g => bodyOut (b_brought_to s_nearer 4000) N_brought_to.length os g
def s_bring : FSem := fun os g => bodyOut (b_bring s_brought_to 4000) N_bring.length os g
def s_write : FSem := fun os g => bodyOut (b_write s_bring 4000) N_write.length os g
def s_is_number : FSem := fun os g => bodyOut (b_is_number s_is_int 4000) N_is_number.length os g
def s_check_number : FSem := fun os g => bodyOut (b_check_number s_is_number 4000) N_check_number.length os g
def s_is_row : FSem := fun os g => bodyOut (b_is_row s_is_number 4000) N_is_row.length os g
def s_check_row : FSem := fun os g => bodyOut (b_check_row s_is_row 4000) N_check_row.length os g
def s_is_word : FSem := fun os g => bodyOut (b_is_word 4000) N_is_word.length os g
def s_is_way : FSem := fun os g => bodyOut (b_is_way s_is_int s_is_word 4000) N_is_way.length os g
def s_check_way : FSem := fun os g => bodyOut (b_check_way s_is_way 4000) N_check_way.length os g
def s_run : FSem := fun os g => bodyOut (b_run s_write 4000) N_run.length os g
def s_written : FSem := fun os g => bodyOut (b_written s_check_way s_check_row s_run 4000) N_written.length os g
def s__law_start : FSem := fun os g => bodyOut (b__law_start 4000) N__law_start.length os g
def s__law_draw : FSem := fun os g => bodyOut (b__law_draw 4000) N__law_draw.length os g
def s__law_pick : FSem := fun os g => bodyOut (b__law_pick s__law_draw 4000) N__law_pick.length os g
def s__law_error : FSem := fun os g => bodyOut (b__law_error 4000) N__law_error.length os g
def s__law_steps : FSem := fun os g => bodyOut (b__law_steps 4000) N__law_steps.length os g
def s__law_modes : FSem := fun os g => bodyOut (b__law_modes 4000) N__law_modes.length os g
def s__law_way : FSem := fun os g => bodyOut (b__law_way s__law_pick s__law_steps s__law_modes 4000) N__law_way.length os g
def s__law_at : FSem := fun os g => bodyOut (b__law_at 4000) N__law_at.length os g
def s__law_bring : FSem := fun os g => bodyOut (b__law_bring s__law_at 4000) N__law_bring.length os g
def s__law_write : FSem := fun os g => bodyOut (b__law_write s__law_bring 4000) N__law_write.length os g
def s__law_run : FSem := fun os g => bodyOut (b__law_run s__law_write 4000) N__law_run.length os g
def s_Desk_put : FSem := fun os g => bodyOut (b_Desk_put s_check_number s_write 4000) N_Desk_put.length os g
def s_Desk_undo : FSem := fun os g => bodyOut (b_Desk_undo 4000) N_Desk_undo.length os g
def s__law_call : FSem := fun os g => bodyOut (b__law_call s_Desk_put s_Desk_undo s__law_error 4000) N__law_call.length os g
def s_Desk___init__ : FSem := fun os g => bodyOut (b_Desk___init__ s_check_way 4000) N_Desk___init__.length os g
def s_Desk_state : FSem := fun os g => bodyOut (b_Desk_state 4000) N_Desk_state.length os g
def s_Desk_numbers : FSem := fun os g => bodyOut (b_Desk_numbers 4000) N_Desk_numbers.length os g
def s_Desk___len__ : FSem := fun os g => bodyOut (b_Desk___len__ 4000) N_Desk___len__.length os g
def s_Desk_lines : FSem := fun os g => bodyOut (b_Desk_lines 4000) N_Desk_lines.length os g
def s_law : FSem := fun os g => bodyOut (b_law s__law_start s__law_way s_Desk___init__ s_Desk_put s__law_run s_Desk_state s_Desk_numbers s_Desk___len__ s_Desk_lines s__law_draw s__law_call s__law_write s__law_pick s_written s_Desk_undo 4000) N_law.length os g
end Lw
namespace Lw
open PySem PySem.Spec PyProof.Rows L2 Tr
/-! ### the plain side: steps -/
def nearer (lo hi : Int) (m : Str) (st : Int) : Int :=
  if m = "neardown" then lo else if m = "nearup" then hi else
  if m = "neareven" ∨ m = "nearodd" then
    if m = "neareven" then (if lo / st % 2 = 0 then lo else hi) else (if (if lo / st % 2 = 0 then lo else hi) = lo then hi else lo)
  else if m = "nearin" then (if 0 ≤ lo then lo else hi) else (if 0 ≤ lo then hi else lo)
theorem p_nearer (lo hi st : Int) (m : Str) (g : List Cell) (h1 : 0 < st) (h2 : st < 1073741824) (hm : shp (.str m) = true) : s_nearer [.d (.int lo), .d (.int hi), .d (.str m), .d (.int st)] g = .ok (.d (.int (nearer lo hi m st))) g := by
  unfold nearer
  by_cases c1 : m = "neardown"
  · simp [s_nearer, b_nearer, h1, h2, hm, c1]
  by_cases c2 : m = "nearup"
  · simp [s_nearer, b_nearer, h1, h2, hm, c1, c2]
  by_cases c3 : m = "neareven"
  · by_cases c5 : lo / st % 2 = 0
    · simp [s_nearer, b_nearer, h1, h2, hm, c1, c2, c3, c5]
    · by_cases c6 : hi = lo <;> simp [s_nearer, b_nearer, h1, h2, hm, c1, c2, c3, c5, c6]
  by_cases c4 : m = "nearodd"
  · by_cases c5 : lo / st % 2 = 0
    · simp [s_nearer, b_nearer, h1, h2, hm, c1, c2, c3, c4, c5]
    · by_cases c6 : hi = lo <;> simp [s_nearer, b_nearer, h1, h2, hm, c1, c2, c3, c4, c5, c6]
  by_cases c6 : m = "nearin" <;> by_cases c5 : 0 ≤ lo <;> simp [s_nearer, b_nearer, h1, h2, hm, c1, c2, c3, c4, c5, c6]
theorem nearer_or (lo hi : Int) (m : Str) (st : Int) : nearer lo hi m st = lo ∨ nearer lo hi m st = hi := by
  unfold nearer
  repeat' split
  all_goals simp
def bt (v s : Int) (m : Str) : Int :=
  let lo := v / s * s
  let hi := if lo = v then lo else lo + s
  if m = "down" then lo else if m = "up" then hi else
  if m = "in" ∨ m = "out" then (if (decide (0 ≤ v) = decide (m = "in")) then lo else hi) else
  if v - lo ≠ hi - v then (if v - lo < hi - v then lo else hi) else
  if lo ≠ hi then nearer lo hi m s else lo
theorem p_brought_to (v s : Int) (m : Str) (g : List Cell) (h1 : 0 < s) (h2 : s < 1073741824) (hm : shp (.str m) = true) : s_brought_to [.d (.int v), .d (.int s), .d (.str m)] g = .ok (.d (.int (bt v s m))) g := by
  have hs1 : -18446744073709551616 < s := by omega
  have hs2 : s < 18446744073709551616 := by omega
  have pn := fun lo hi => p_nearer lo hi s m g h1 h2 hm
  unfold bt
  dsimp only
  by_cases c0 : v / s * s = v
  · by_cases c1 : m = "down"
    · simp [s_brought_to, b_brought_to, h1, h2, hs1, hs2, hm, c0, c1]
    by_cases c2 : m = "up"
    · simp [s_brought_to, b_brought_to, h1, h2, hs1, hs2, hm, c0, c1, c2]
    by_cases c3 : m = "in"
    · by_cases c5 : 0 ≤ v <;> simp [s_brought_to, b_brought_to, h1, h2, hs1, hs2, hm, c0, c1, c2, c3, c5]
    by_cases c4 : m = "out"
    · by_cases c5 : 0 ≤ v <;> simp [s_brought_to, b_brought_to, h1, h2, hs1, hs2, hm, c0, c1, c2, c3, c4, c5]
    simp [s_brought_to, b_brought_to, h1, h2, hs1, hs2, hm, c0, c1, c2, c3, c4]
  · by_cases c1 : m = "down"
    · simp [s_brought_to, b_brought_to, h1, h2, hs1, hs2, hm, c0, c1]
    by_cases c2 : m = "up"
    · simp [s_brought_to, b_brought_to, h1, h2, hs1, hs2, hm, c0, c1, c2]
    by_cases c3 : m = "in"
    · by_cases c5 : 0 ≤ v <;> simp [s_brought_to, b_brought_to, h1, h2, hs1, hs2, hm, c0, c1, c2, c3, c5]
    by_cases c4 : m = "out"
    · by_cases c5 : 0 ≤ v <;> simp [s_brought_to, b_brought_to, h1, h2, hs1, hs2, hm, c0, c1, c2, c3, c4, c5]
    have c6 : ¬ (v / s * s = v / s * s + s) := by omega
    by_cases c7 : v - v / s * s = v / s * s + s - v
    · simp [s_brought_to, b_brought_to, h1, h2, hs1, hs2, hm, c0, c1, c2, c3, c4, c6, c7, pn]
    · by_cases c8 : v - v / s * s < v / s * s + s - v <;> simp [s_brought_to, b_brought_to, h1, h2, hs1, hs2, hm, c0, c1, c2, c3, c4, c6, c7, c8]
theorem bt_near (v s : Int) (m : Str) (h : 0 < s) : v - s < bt v s m ∧ bt v s m < v + s := by
  have e1 := Int.mul_ediv_add_emod v s
  have e2 := Int.emod_nonneg v (Int.ne_of_gt h)
  have e3 := Int.emod_lt_of_pos v h
  have e4 : v / s * s = v - v % s := by rw [Int.mul_comm]; omega
  unfold bt
  dsimp only
  have n := nearer_or (v / s * s) (if v / s * s = v then v / s * s else v / s * s + s) m s
  generalize nearer (v / s * s) (if v / s * s = v then v / s * s else v / s * s + s) m s = z at n ⊢
  rw [e4] at n ⊢
  repeat' split
  all_goals (try split at n)
  all_goals omega
structure Way where
  s : Int
  f : Int
  m : Str
  c : Str
def Way.D (w : Way) : PyData := .tuple [.int w.s, .int w.f, .str w.m, .str w.c]
structure Way.Ok (w : Way) : Prop where
  s1 : 2 ≤ w.s
  s2 : w.s ≤ 6
  f1 : 1 ≤ w.f
  f2 : w.f ≤ 3
  m : shp (.str w.m) = true
  c : shp (.str w.c) = true
def bring (w : Way) (v : Int) : Int := bt (bt v w.f w.m) w.s w.m
theorem p_bring (w : Way) (v : Int) (g : List Cell) (h : w.Ok) : s_bring [.d w.D, .d (.int v)] g = .ok (.d (.int (bring w v))) g := by
  have a1 := h.s1; have a2 := h.s2; have a3 := h.f1; have a4 := h.f2
  have e1 := fun v => p_brought_to v w.f w.m g (by omega) (by omega) h.m
  have e2 := fun v => p_brought_to v w.s w.m g (by omega) (by omega) h.m
  simp [s_bring, b_bring, Way.D, e1, e2, bring]
theorem bring_near (w : Way) (v : Int) (h : w.Ok) : -9 < bring w v - v ∧ bring w v - v < 9 := by
  have a1 := h.s1; have a2 := h.s2; have a3 := h.f1; have a4 := h.f2
  have e1 := bt_near v w.f w.m (by omega)
  have e2 := bt_near (bt v w.f w.m) w.s w.m (by omega)
  unfold bring
  omega
structure Sta where
  r : Int
  b : Int
  t : Int
def Sta.D (x : Sta) : PyData := .tuple [.int x.r, .int x.b, .int x.t]
def used (w : Way) (x : Sta) (n : Int) : Int := if w.c = "signs" ∧ n < 0 then x.b else x.r
def told (w : Way) (x : Sta) (n : Int) : Int := bring w (n + used w x n)
def left (w : Way) (x : Sta) (n : Int) : Int := n + used w x n - told w x n
def after (w : Way) (x : Sta) (n : Int) : Sta :=
  if w.c = "none" then x else if w.c = "all" then ⟨left w x n, 0, 0⟩ else
  if w.c = "pairs" then (if x.t = 0 then ⟨left w x n, 0, 1⟩ else ⟨0, 0, 0⟩) else
  if n < 0 then ⟨x.r, left w x n, 0⟩ else ⟨left w x n, x.b, 0⟩
theorem p_write (w : Way) (x : Sta) (n : Int) (g : List Cell) (h : w.Ok) : s_write [.d w.D, .d x.D, .d (.int n)] g = .ok (.d (.tuple [.int (told w x n), (after w x n).D])) g := by
  have e1 := fun v => p_bring w v g h
  have hc := h.c
  obtain ⟨ws, wf, wm, wc⟩ := w
  obtain ⟨r, b, t⟩ := x
  unfold Way.D at e1
  dsimp only at e1 hc
  unfold after left told used
  dsimp only
  by_cases c1 : wc = "signs"
  · subst c1
    by_cases c5 : n < 0 <;> simp [s_write, b_write, Way.D, Sta.D, atI, ixN, e1, c5]
  by_cases c2 : wc = "none"
  · subst c2
    simp [s_write, b_write, Way.D, Sta.D, atI, ixN, e1]
  by_cases c3 : wc = "all"
  · subst c3
    simp [s_write, b_write, Way.D, Sta.D, atI, ixN, e1]
  by_cases c4 : wc = "pairs"
  · subst c4
    by_cases c5 : t = 0 <;> simp [s_write, b_write, Way.D, Sta.D, atI, ixN, e1, c5]
  by_cases c5 : n < 0 <;> simp [s_write, b_write, Way.D, Sta.D, atI, ixN, e1, hc, c1, c2, c3, c4, c5]
end Lw
namespace Lw
open PySem PySem.Spec PyProof.Rows L2 Tr
/-! ### the plain side: checks, the run -/
theorem p_is_int (v lo hi : Int) (g : List Cell) : s_is_int [.d (.int v), .d (.int lo), .d (.int hi)] g = .ok (.d (.bool (decide (lo ≤ v ∧ v ≤ hi)))) g := by
  by_cases c : lo ≤ v <;> simp [s_is_int, b_is_int, c]
theorem p_is_number (v : Int) (g : List Cell) : s_is_number [.d (.int v)] g = .ok (.d (.bool (decide (-4 ≤ v ∧ v ≤ 4)))) g := by
  simp [s_is_number, b_is_number, k_WIDEST, p_is_int]
def rowD (row : List Int) : PyData := .list (row.map .int)
structure RowOk (row : List Int) : Prop where
  len : row.length ≤ 30
  ok : ∀ n ∈ row, -4 ≤ n ∧ n ≤ 4
theorem p_is_row_c (row : List Int) (g : List Cell) (h : row.length ≤ 1000) : c_is_row_0 s_is_number ⟨[some (.d (.list (row.map .int))), none], g⟩ = .ok (.lst (row.map fun n => .bool (decide (-4 ≤ n ∧ n ≤ 4)))) ⟨[some (.d (.list (row.map .int))), none], g⟩ :=
  xComp_all (enc := PyData.int) (F := fun n => .bool (decide (-4 ≤ n ∧ n ≤ 4))) row (by simp [iSeq]) (.inl rfl) (fun n _ => ⟨.d (.bool (decide (-4 ≤ n ∧ n ≤ 4))), by simp [u_is_row_0, p_is_number], rfl⟩) (by omega)
theorem p_is_row (row : List Int) (g : List Cell) (h : RowOk row) : s_is_row [.d (rowD row)] g = .ok (.d (.bool true)) g := by
  have h1 := h.len
  have e : (row.map fun n => decide (-4 ≤ n ∧ n ≤ 4)).all id = true := by
    simp only [List.all_map, List.all_eq_true]
    intro n hn
    simpa using h.ok n hn
  have h2 : (row.length : Int) ≤ 30 := by omega
  have e2 := boolsD_map (fun n : Int => decide (-4 ≤ n ∧ n ≤ 4)) row
  simp only [s_is_row, b_is_row, rowD]
  simp [k_MOST_ROW, p_is_row_c row g (by omega), allC, one, h2]
  simp at e2 e
  simp [e2]
  exact e
theorem p_check_row (row : List Int) (g : List Cell) (h : RowOk row) : s_check_row [.d (rowD row)] g = .ok (.d .none) g := by
  simp [s_check_row, b_check_row, p_is_row row g h]
theorem p_is_word (m : Str) (ws : List PyData) (g : List Cell) (h1 : shp (.str m) = true) (h2 : layL 63 ws = true) (h3 : inD (.str m) ws = true) : s_is_word [.d (.str m), .d (.tuple ws)] g = .ok (.d (.bool true)) g := by
  simp [s_is_word, b_is_word, h1, h2, h3]
structure Way.Va (w : Way) : Prop where
  st : (w.s = 2 ∧ w.f = 1) ∨ (w.s = 3 ∧ w.f = 1) ∨ (w.s = 4 ∧ w.f = 1) ∨ (w.s = 4 ∧ w.f = 2) ∨ (w.s = 6 ∧ w.f = 1) ∨ (w.s = 6 ∧ w.f = 2) ∨ (w.s = 6 ∧ w.f = 3)
  m : w.m = "down" ∨ w.m = "up" ∨ w.m = "in" ∨ w.m = "out" ∨ w.m = "neardown" ∨ w.m = "nearup" ∨ w.m = "nearin" ∨ w.m = "nearout" ∨ w.m = "neareven" ∨ w.m = "nearodd"
  c : w.c = "none" ∨ w.c = "all" ∨ w.c = "signs" ∨ w.c = "pairs"
theorem Way.Va.ok {w : Way} (h : w.Va) : w.Ok := by
  obtain ⟨h1, h2, h3⟩ := h
  refine ⟨by omega, by omega, by omega, by omega, ?_, ?_⟩
  · rcases h2 with e | e | e | e | e | e | e | e | e | e <;> rw [e] <;> simp
  · rcases h3 with e | e | e | e <;> rw [e] <;> simp
theorem p_is_way (w : Way) (g : List Cell) (h : w.Va) : s_is_way [.d w.D] g = .ok (.d (.bool true)) g := by
  have ho := h.ok
  have h1 := ho.m
  have h2 := ho.c
  have e1 : s_is_word [.d (.str w.m), .d k_MODES] g = .ok (.d (.bool true)) g := p_is_word _ _ g h1 (by simp) (by
    rcases h.m with e | e | e | e | e | e | e | e | e | e <;> rw [e] <;> simp)
  have e2 : s_is_word [.d (.str w.c), .d k_CARRIES] g = .ok (.d (.bool true)) g := p_is_word _ _ g h2 (by simp) (by
    rcases h.c with e | e | e | e <;> rw [e] <;> simp)
  have e3 := fun v lo hi => p_is_int v lo hi g
  obtain ⟨ws, wf, wm, wc⟩ := w
  have hs := h.st
  dsimp only at hs e1 e2 h1 h2
  rcases hs with ⟨rfl, rfl⟩ | ⟨rfl, rfl⟩ | ⟨rfl, rfl⟩ | ⟨rfl, rfl⟩ | ⟨rfl, rfl⟩ | ⟨rfl, rfl⟩ | ⟨rfl, rfl⟩ <;>
    simp [s_is_way, b_is_way, Way.D, atI, ixN, e1, e2, e3, HT.sIx, Tr.cutD, k_STEPS]
theorem p_check_way (w : Way) (g : List Cell) (h : w.Va) : s_check_way [.d w.D] g = .ok (.d .none) g := by
  simp [s_check_way, b_check_way, p_is_way w g h]
def tolds (w : Way) : Sta → List Int → List Int
  | _, [] => []
  | x, n :: r => told w x n :: tolds w (after w x n) r
def stas (w : Way) : Sta → List Int → List Sta
  | _, [] => []
  | x, n :: r => after w x n :: stas w (after w x n) r
def fin (w : Way) : Sta → List Int → Sta
  | x, [] => x
  | x, n :: r => fin w (after w x n) r
def sta0 : Sta := ⟨0, 0, 0⟩
theorem tolds_len (w : Way) : ∀ (x : Sta) (r : List Int), (tolds w x r).length = r.length
  | _, [] => rfl
  | x, n :: r => congrArg Nat.succ (tolds_len w _ r)
theorem stas_len (w : Way) : ∀ (x : Sta) (r : List Int), (stas w x r).length = r.length
  | _, [] => rfl
  | x, n :: r => congrArg Nat.succ (stas_len w _ r)
theorem run_step (w : Way) (R : PyData) (T S : List PyData) (x : Sta) (n : Int) (a b : Option O) (g : List Cell) (h : w.Ok) (hT : T.length ≤ 1000) (hS : S.length ≤ 1000) :
    w_run_0 s_write ⟨[some (.d w.D), some (.d R), some (.lst T), some (.lst (S ++ [x.D])), some (.d (.int n)), a, b], g⟩ =
      .ok .next ⟨[some (.d w.D), some (.d R), some (.lst (T ++ [.int (told w x n)])), some (.lst (S ++ [x.D] ++ [(after w x n).D])), some (.d (.int n)), some (.d (.int (told w x n))), some (.d (after w x n).D)], g⟩ := by
  have e := p_write w x n g h
  have e2 := atI_last S x.D
  have h3 : T.length ≤ 16000000 := by omega
  have h4 : S.length + 1 ≤ 16000000 := by omega
  simp [w_run_0, e, e2, h3, h4]
theorem run_loop (w : Way) (R : PyData) (g : List Cell) (h : w.Ok) : ∀ (row : List Int) (T S : List PyData) (x : Sta) (c a b : Option O), T.length + row.length ≤ 1000 → S.length + row.length ≤ 1000 → ∃ c' a' b',
    forM (gN 4) (w_run_0 s_write) (row.map .int) ⟨[some (.d w.D), some (.d R), some (.lst T), some (.lst (S ++ [x.D])), c, a, b], g⟩ =
      .ok .next ⟨[some (.d w.D), some (.d R), some (.lst (T ++ (tolds w x row).map .int)), some (.lst (S ++ [x.D] ++ (stas w x row).map Sta.D)), c', a', b'], g⟩
  | [], T, S, x, c, a, b, _, _ => ⟨c, a, b, by simp [forM_nil, tolds, stas]⟩
  | n :: r, T, S, x, c, a, b, h1, h2 => by
    simp only [List.length_cons] at h1 h2
    have e1 := run_step w R T S x n a b g h (by omega) (by omega)
    obtain ⟨c', a', b', e2⟩ := run_loop w R g h r (T ++ [.int (told w x n)]) (S ++ [x.D]) (after w x n) (some (.d (.int n))) (some (.d (.int (told w x n)))) (some (.d (after w x n).D)) (by simp; omega) (by simp; omega)
    refine ⟨c', a', b', ?_⟩
    rw [List.map_cons, forM_cons (st1 := ⟨[some (.d w.D), some (.d R), some (.lst T), some (.lst (S ++ [x.D])), some (.d (.int n)), a, b], g⟩) rfl e1, e2]
    simp [tolds, stas]
theorem p_run (w : Way) (row : List Int) (g : List Cell) (h : w.Ok) (hr : row.length ≤ 900) : s_run [.d w.D, .d (rowD row)] g = .ok (.d (.tuple [.list ((tolds w sta0 row).map .int), .list (sta0.D :: (stas w sta0 row).map Sta.D)])) g := by
  obtain ⟨c', a', b', e⟩ := run_loop w (rowD row) g h row [] [] sta0 none none none (by simpa using (by omega : row.length ≤ 1000)) (by simpa using (by omega : row.length ≤ 1000))
  have e3 : c_run_0 s_write ⟨[some (.d w.D), some (.d (rowD row)), some (.lst []), some (.lst [k_START]), none, none, none], g⟩ = .ok .next ⟨[some (.d w.D), some (.d (rowD row)), some (.lst ((tolds w sta0 row).map .int)), some (.lst (sta0.D :: (stas w sta0 row).map Sta.D)), c', a', b'], g⟩ := by
    have e2 : iSeq (xFz (xVar 1)) ⟨[some (.d w.D), some (.d (rowD row)), some (.lst []), some (.lst [k_START]), none, none, none], g⟩ = .ok (row.map .int) ⟨[some (.d w.D), some (.d (rowD row)), some (.lst []), some (.lst [k_START]), none, none, none], g⟩ := by simp [iSeq, rowD]
    unfold c_run_0
    rw [sFor_eq e2]
    exact e
  have h5 : row.length + 1 ≤ 16000000 := by omega
  simp [s_run, b_run, e3]
theorem p_written (w : Way) (row : List Int) (g : List Cell) (h : w.Va) (hr : RowOk row) : s_written [.d w.D, .d (rowD row)] g = .ok (.d (.list ((tolds w sta0 row).map .int))) g := by
  have h1 := hr.len
  simp [s_written, b_written, p_check_way w g h, p_check_row row g hr, p_run w row g h.ok (by omega)]
theorem stas_last (w : Way) : ∀ (x : Sta) (row : List Int), ∃ p, x :: stas w x row = p ++ [fin w x row]
  | x, [] => ⟨[], rfl⟩
  | x, n :: r => by
    obtain ⟨p, e⟩ := stas_last w (after w x n) r
    exact ⟨x :: p, by rw [stas, e]; rfl⟩
end Lw
namespace Lw
open PySem PySem.Spec PyProof.Rows L2 Tr
/-! ### the plain side: draws -/
def cInts (ns : List Int) : Cell := .lst (ns.map fun n => O.d (.int n))
def DG (sc ns : List Int) (c : Int) : List Cell := [.scr sc, cInts ns, .lst [.obj 1, .d (.int c)]]
structure DrX (rst g : List Cell) : Prop where
  ex : ∃ sc ns c, ns ≠ [] ∧ g = DG sc ns c ++ rst
theorem p_start (ns : List Int) : ∃ g', s__law_start [.obj 0] [.scr ns] = .ok (.obj 2) g' ∧ DrX [] g' := by
  cases ns with
  | nil =>
    exact ⟨DG [] [0] 0, by simp [s__law_start, b__law_start, xLst2, xScrNe, scrAt, DG, cInts], ⟨[], [0], 0, by simp, rfl⟩⟩
  | cons n ns =>
    refine ⟨DG (n :: ns) (n :: ns) 0, ?_, ⟨n :: ns, n :: ns, 0, by simp, rfl⟩⟩
    have h := layL_ints 63 ns
    simp [s__law_start, b__law_start, xLst2, xScrNe, xScrL, scrAt, DG, cInts, h]
theorem draw_lo (rst : List Cell) (m c z x v : Int) (sc ns : List Int) (h1 : 0 < m) (hm0 : (0 : Int) < ns.length) (hl : 0 < ns.length) (ea : atI (ns.map fun n => O.d (.int n)) ((c + 1) % (ns.length : Int)) = some (.d (.int z)))
    (a1 : atI [O.obj 1, O.d (.int c)] 1 = some (.d (.int c))) (a2 : atI [O.obj 1, O.d (.int (c + 1))] 1 = some (.d (.int (c + 1)))) (i1 : ixN 2 1 = some 1) (hc : ¬ 1000000000000000000 ≤ z)
    (hx : (z + 104729 * (c + 1)) % 4294967291 = x) (hp : x.natAbs < 18446744073709551616) (hv : (x ^ 5 % 4294967279 / 64 * 69621 + x ^ 5 % 4294967279) % 4294967231 / 8 % m = v) :
    s__law_draw [.obj 2, .d (.int m)] (DG sc ns c ++ rst) = .ok (.d (.int v)) (DG sc ns (c + 1) ++ rst) := by
  simp [s__law_draw, b__law_draw, xIxG, xLenG, sSetG, ixG, lenG, setGAt, setGAt.isLo, DG, cInts, a1, a2, i1, ea, hm0, hc, h1, hl, hx, hp]
  exact hv
theorem p_draw (m : Int) {rst : List Cell} (g : List Cell) (hg : DrX rst g) (h1 : 0 < m) (h2 : m < 1073741824) : ∃ v g', s__law_draw [.obj 2, .d (.int m)] g = .ok (.d (.int v)) g' ∧ DrX rst g' ∧ 0 ≤ v ∧ v < m := by
  obtain ⟨sc, ns, c, hn, rfl⟩ := hg.ex
  have hl : 0 < ns.length := List.length_pos_iff.mpr hn
  have hm0 : (0 : Int) < ns.length := by omega
  have b1 := Int.emod_nonneg (c + 1) (Int.ne_of_gt hm0)
  have b2 := Int.emod_lt_of_pos (c + 1) hm0
  obtain ⟨k, hk⟩ := Int.eq_ofNat_of_zero_le b1
  have hkl : k < ns.length := by omega
  have ea : atI (ns.map fun n => O.d (.int n)) ((c + 1) % (ns.length : Int)) = some (.d (.int ns[k])) := by
    rw [hk, atI_nat (by simpa using hkl)]
    simp
  have ei : ixN ns.length ((c + 1) % (ns.length : Int)) = some k := by
    rw [hk]; unfold ixN
    rw [if_pos (by omega), if_pos (by omega)] <;> simp
  have a1 : atI [O.obj 1, O.d (.int c)] 1 = some (.d (.int c)) := by simp [atI, ixN]
  have a2 : atI [O.obj 1, O.d (.int (c + 1))] 1 = some (.d (.int (c + 1))) := by simp [atI, ixN]
  have i1 : ixN 2 1 = some 1 := by decide
  generalize hz : ns[k] = z at ea
  by_cases hc : 1000000000000000000 ≤ z
  · refine ⟨z % m, DG sc (ns.set k (z / m)) (c + 1) ++ rst, ?_, ⟨sc, ns.set k (z / m), c + 1, by intro e; have := congrArg List.length e; simp at this; exact hn this, rfl⟩, Int.emod_nonneg z (Int.ne_of_gt h1), Int.emod_lt_of_pos z h1⟩
    have es : (ns.map fun n => O.d (.int n)).set k (.d (.int (z / m))) = (ns.set k (z / m)).map fun n => O.d (.int n) := by simp [List.map_set]
    simp [s__law_draw, b__law_draw, xIxG, xLenG, sSetG, ixG, lenG, setGAt, setGAt.isLo, DG, cInts, a1, a2, i1, ea, ei, hm0, hc, h1, h2, hl]
  · have p1 : (0 : Int) < 4294967291 := by decide
    have q1 := Int.emod_nonneg (z + 104729 * (c + 1)) (Int.ne_of_gt p1)
    have q2 := Int.emod_lt_of_pos (z + 104729 * (c + 1)) p1
    have hp : ((z + 104729 * (c + 1)) % 4294967291).natAbs < 18446744073709551616 := by omega
    generalize hx : (z + 104729 * (c + 1)) % 4294967291 = x at hp
    obtain ⟨v, hv⟩ : ∃ v, (x ^ 5 % 4294967279 / 64 * 69621 + x ^ 5 % 4294967279) % 4294967231 / 8 % m = v := ⟨_, rfl⟩
    refine ⟨v, DG sc ns (c + 1) ++ rst, ?_, ⟨sc, ns, c + 1, hn, rfl⟩, hv ▸ Int.emod_nonneg _ (Int.ne_of_gt h1), hv ▸ Int.emod_lt_of_pos _ h1⟩
    exact draw_lo rst m c z x v sc ns h1 hm0 hl ea a1 a2 i1 hc hx hp hv
theorem p_pick (ds : List PyData) {rst : List Cell} (g : List Cell) (hg : DrX rst g) (h1 : ds ≠ []) (h2 : ds.length < 1073741824) : ∃ d g', s__law_pick [.obj 2, .d (.list ds)] g = .ok (.d d) g' ∧ DrX rst g' ∧ d ∈ ds := by
  have hl : 0 < ds.length := List.length_pos_iff.mpr h1
  obtain ⟨v, g', e, hg', b1, b2⟩ := p_draw ds.length g hg (by omega) (by omega)
  obtain ⟨k, hk⟩ := Int.eq_ofNat_of_zero_le b1
  have hkl : k < ds.length := by omega
  have ea : atI ds v = some ds[k] := by rw [hk, atI_nat hkl]
  exact ⟨ds[k], g', by simp [s__law_pick, b__law_pick, e, ea], hg', List.getElem_mem hkl⟩
end Lw
namespace Lw
open PySem PySem.Spec PyProof.Rows L2 Tr
/-! ### the plain side: a way, a row -/
theorem p_way {rst : List Cell} (g : List Cell) (hg : DrX rst g) : ∃ w g', s__law_way [.obj 2] g = .ok (.d (Way.D w)) g' ∧ DrX rst g' ∧ Way.Va w := by
  obtain ⟨c, g1, e1, h1, m1⟩ := p_pick [.str "none", .str "all", .str "all", .str "signs", .str "signs", .str "pairs", .str "pairs"] g hg (by simp) (by simp)
  obtain ⟨s, g2, e2, h2, m2⟩ := p_pick [.tuple [.int 2, .int 1], .tuple [.int 3, .int 1], .tuple [.int 4, .int 1], .tuple [.int 4, .int 2], .tuple [.int 6, .int 1], .tuple [.int 6, .int 2], .tuple [.int 6, .int 3]] g1 h1 (by simp) (by simp)
  obtain ⟨m, g3, e3, h3, m3⟩ := p_pick [.str "down", .str "up", .str "in", .str "out", .str "neardown", .str "nearup", .str "nearin", .str "nearout", .str "neareven", .str "nearodd"] g2 h2 (by simp) (by simp)
  have es : s__law_steps [] g1 = .ok (.lst [.tuple [.int 2, .int 1], .tuple [.int 3, .int 1], .tuple [.int 4, .int 1], .tuple [.int 4, .int 2], .tuple [.int 6, .int 1], .tuple [.int 6, .int 2], .tuple [.int 6, .int 3]]) g1 := by simp [s__law_steps, b__law_steps]
  have em : s__law_modes [] g2 = .ok (.lst [.str "down", .str "up", .str "in", .str "out", .str "neardown", .str "nearup", .str "nearin", .str "nearout", .str "neareven", .str "nearodd"]) g2 := by simp [s__law_modes, b__law_modes]
  obtain ⟨cs, rfl, hc⟩ : ∃ x : Str, c = .str x ∧ (x = "none" ∨ x = "all" ∨ x = "signs" ∨ x = "pairs") := by
    simp at m1
    rcases m1 with e | e | e | e <;> exact ⟨_, e, by simp⟩
  obtain ⟨ms, rfl, hm⟩ : ∃ x : Str, m = .str x ∧ (x = "down" ∨ x = "up" ∨ x = "in" ∨ x = "out" ∨ x = "neardown" ∨ x = "nearup" ∨ x = "nearin" ∨ x = "nearout" ∨ x = "neareven" ∨ x = "nearodd") := by
    simp at m3
    rcases m3 with e | e | e | e | e | e | e | e | e | e <;> exact ⟨_, e, by simp⟩
  obtain ⟨a, b, rfl, hs⟩ : ∃ a b : Int, s = .tuple [.int a, .int b] ∧ ((a = 2 ∧ b = 1) ∨ (a = 3 ∧ b = 1) ∨ (a = 4 ∧ b = 1) ∨ (a = 4 ∧ b = 2) ∨ (a = 6 ∧ b = 1) ∨ (a = 6 ∧ b = 2) ∨ (a = 6 ∧ b = 3)) := by
    simp at m2
    rcases m2 with e | e | e | e | e | e | e <;> exact ⟨_, _, e, by simp⟩
  refine ⟨⟨a, b, ms, cs⟩, g3, ?_, h3, ⟨hs, hm, hc⟩⟩
  simp [s__law_way, b__law_way, e1, es, e2, em, e3, Way.D]
end Lw
namespace Lw
open PySem PySem.Spec PyProof.Rows L2 Tr
/-! ### the law's own rounding -/
theorem filt (v : Int) (s : Nat) (hs : 0 < s) : ((List.range s).filter fun (k : Nat) => decide ((v - (k : Int)) % (s : Int) = 0)) = [(v % (s : Int)).toNat] := by
  have h0 : (0 : Int) < s := by omega
  have b1 := Int.emod_nonneg v (Int.ne_of_gt h0)
  have b2 := Int.emod_lt_of_pos v h0
  have e : ∀ k ∈ List.range s, decide ((v - (k : Int)) % (s : Int) = 0) = (k == (v % (s : Int)).toNat) := fun k hk => by
    have hk := List.mem_range.mp hk
    have q : (v - (k : Int)) % (s : Int) = 0 ↔ v % (s : Int) = (k : Int) := by
      rw [← Int.emod_eq_emod_iff_emod_sub_eq_zero, Int.emod_eq_of_lt (by omega : (0 : Int) ≤ k) (by omega)]
    rw [Bool.eq_iff_iff]
    simp only [decide_eq_true_eq, beq_iff_eq, q]
    omega
  rw [List.filter_congr e, List.filter_beq, List.Nodup.count List.nodup_range, if_pos (List.mem_range.mpr (by omega))]
  rfl
def A (v s : Int) (m : Str) (g : List Cell) (o3 o4 o5 o6 o7 o8 o9 o10 : Option O) : Tr.St := ⟨[some (.d (.int v)), some (.d (.int s)), some (.d (.str m)), o3, o4, o5, o6, o7, o8, o9, o10, none, none], g⟩
theorem at_c0 (v : Int) (s : Nat) (m : Str) (g : List Cell) (hs : 0 < s) (hs2 : s < 1000) : c__law_at_0 (A v s m g none none none none none none none none) = .ok (.lst [.int (v / s * s)]) (A v s m g none none none none none none none none) := by
  have h0 : (0 : Int) < s := by omega
  have b : bnd (s : Int) = true := by unfold bnd; simp; omega
  have e := xComp_of (i := 11) (fi := Tr.iRange1 (aCons (xVar 1) aNil)) (t := v__law_at_0) (f := u__law_at_0) (st := A v s m g none none none none none none none none) (st1 := A v s m g none none none none none none none none) (enc := fun (k : Nat) => PyData.int (k : Int)) (P := fun (k : Nat) => decide ((v - (k : Int)) % (s : Int) = 0)) (F := fun (k : Nat) => .int (v - (k : Int))) (List.range s)
    (by simp [Tr.iRange1, A, b, rangeL]) (.inl rfl) (fun k _ => by simp [v__law_at_0, A, hs]) (fun k _ _ => ⟨.d (.int (v - (k : Int))), by simp [u__law_at_0, A], rfl⟩) (by simp; omega)
  rw [filt v s hs] at e
  have b1 := Int.emod_nonneg v (Int.ne_of_gt h0)
  have e2 := Int.mul_ediv_add_emod v s
  have e3 : v - ((v % (s : Int)).toNat : Int) = v / s * s := by rw [Int.mul_comm]; omega
  unfold c__law_at_0
  rw [e]
  simp only [List.map_cons, List.map_nil, e3]
theorem at_0 (v : Int) (s : Nat) (m : Str) (g : List Cell) (hs : 0 < s) (hs2 : s < 1000) : b__law_at_0 (A v s m g none none none none none none none none) = .ok .next (A v s m g (some (.d (.int (v / s * s)))) none none none none none none none) := by
  have e := at_c0 v s m g hs hs2
  unfold A at e ⊢
  simp [b__law_at_0, e]
theorem at_same (v : Int) (s : Nat) (m : Str) (g : List Cell) (hs : 0 < s) (hs2 : s < 1000) (h : v / s * s = v) : s__law_at [.d (.int v), .d (.int s), .d (.str m)] g = .ok (.d (.int v)) g := by
  have e := at_0 v s m g hs hs2
  rw [h] at e
  have e1 : b__law_at_1 (A v s m g (some (.d (.int v))) none none none none none none none) = .ok .next (A v s m g (some (.d (.int v))) (some (.lst [.int v])) none none none none none none) := by simp [b__law_at_1, A]
  have e2 : b__law_at_2 (A v s m g (some (.d (.int v))) (some (.lst [.int v])) none none none none none none) = .ok (.ret (.d (.int v))) (A v s m g none (some (.lst [.int v])) none none none none none none) := by simp [b__law_at_2, A]
  have e3 : b__law_at 4000 (A v s m g none none none none none none none none) = .ok (.ret (.d (.int v))) (A v s m g none (some (.lst [.int v])) none none none none none none) := by
    unfold b__law_at
    rw [sSeq_next e, sSeq_next e1, sSeq_ret e2]
  show (match b__law_at 4000 (A v s m g none none none none none none none none) with
    | .ok .next st => FOut.ok (.d .none) st.g
    | .ok (.ret o) st => .ok o st.g
    | .exc c st => .exc c st.g
    | _ => .no) = _
  rw [e3]
  rfl
theorem minI_two (a b : Int) : minI [a, b] = some (if a < b then a else b) := rfl
theorem maxI_two (a b : Int) : maxI [a, b] = some (if b < a then a else b) := rfl
def absI (n : Int) : Int := if n < 0 then -n else n
section
variable (v lo hi : Int) (s : Nat) (m : Str) (g : List Cell)
theorem at_1 (h : lo ≠ v) (e : lo + s = hi) : b__law_at_1 (A v s m g (some (.d (.int lo))) none none none none none none none) = .ok .next (A v s m g (some (.d (.int lo))) (some (.lst [.int lo, .int hi])) none none none none none none) := by
  simp [b__law_at_1, A, h, e]
theorem at_2 (o5 o6 o7 o8 o9 o10 : Option O) : b__law_at_2 (A v s m g (some (.d (.int lo))) (some (.lst [.int lo, .int hi])) o5 o6 o7 o8 o9 o10) = .ok .next (A v s m g (some (.d (.int lo))) (some (.lst [.int lo, .int hi])) o5 o6 o7 o8 o9 o10) := by
  simp [b__law_at_2, A]
theorem at_3r (h : lo < hi) (hm : m = "down" ∨ m = "up") (o5 o6 o7 o8 o9 o10 : Option O) : ∃ st, st.g = g ∧ b__law_at_3 (A v s m g (some (.d (.int lo))) (some (.lst [.int lo, .int hi])) o5 o6 o7 o8 o9 o10) = .ok (.ret (.d (.int (if m = "down" then lo else hi)))) st := by
  have h2 : ¬ hi < lo := by omega
  refine ⟨A v s m g (some (.d (.int lo))) (some (.d (.list [.int lo, .int hi]))) o5 o6 o7 o8 o9 o10, rfl, ?_⟩
  rcases hm with rfl | rfl <;> simp [b__law_at_3, A, minC, maxC, one, intsO, intsD, minI_two, maxI_two, h, h2]
theorem at_3 (hs : shp (.str m) = true) (h1 : m ≠ "down") (h2 : m ≠ "up") (o5 o6 o7 o8 o9 o10 : Option O) : b__law_at_3 (A v s m g (some (.d (.int lo))) (some (.lst [.int lo, .int hi])) o5 o6 o7 o8 o9 o10) = .ok .next (A v s m g (some (.d (.int lo))) (some (.lst [.int lo, .int hi])) o5 o6 o7 o8 o9 o10) := by
  simp [b__law_at_3, A, hs, h1, h2]
theorem at_4 : b__law_at_4 (A v s m g (some (.d (.int lo))) (some (.lst [.int lo, .int hi])) none none none none none none) = .ok .next (A v s m g (some (.d (.int lo))) (some (.d (.list [.int lo, .int hi]))) (some (.lst [.int (absI lo), .int (absI hi)])) none none none none none) := by
  have c : c__law_at_1 (A v s m g (some (.d (.int lo))) (some (.lst [.int lo, .int hi])) none none none none none none) = .ok (.lst [.int (absI lo), .int (absI hi)]) (A v s m g (some (.d (.int lo))) (some (.d (.list [.int lo, .int hi]))) none none none none none none) :=
    xComp_all (enc := PyData.int) (F := fun n => .int (absI n)) [lo, hi] (by simp [iSeq, A]) (.inl rfl) (fun n _ => ⟨.d (.int (absI n)), by simp [u__law_at_1, A, absC, one, absI], rfl⟩) (by simp)
  unfold b__law_at_4 sAsg
  rw [c]
  simp [A]
theorem at_5 (p q i o : Int) (hd : (p < q ∧ i = lo ∧ o = hi) ∨ (q < p ∧ i = hi ∧ o = lo)) : b__law_at_5 (A v s m g (some (.d (.int lo))) (some (.d (.list [.int lo, .int hi]))) (some (.lst [.int p, .int q])) none none none none none) = .ok .next (A v s m g (some (.d (.int lo))) (some (.d (.list [.int lo, .int hi]))) (some (.d (.list [.int p, .int q]))) (some (.d (.int i))) (some (.d (.int o))) none none none) := by
  have a1 : ∀ x y : PyData, atI [x, y] 1 = some y := fun x y => by simp [atI, ixN]
  rcases hd with ⟨h1, rfl, rfl⟩ | ⟨h1, rfl, rfl⟩
  · have h2 : ¬ q < p := by omega
    have h3 : p ≠ q := by omega
    simp [b__law_at_5, A, minC, maxC, one, intsO, intsD, minI_two, maxI_two, h1, h2, h3, idxD, flatD, a1]
  · have h2 : ¬ p < q := by omega
    have h3 : p ≠ q := by omega
    simp [b__law_at_5, A, minC, maxC, one, intsO, intsD, minI_two, maxI_two, h1, h2, h3, idxD, flatD, a1]
theorem at_6r (hm : m = "in" ∨ m = "out") (i o : Int) (o4 o5 o8 o9 o10 : Option O) : ∃ st, st.g = g ∧ b__law_at_6 (A v s m g (some (.d (.int lo))) o4 o5 (some (.d (.int i))) (some (.d (.int o))) o8 o9 o10) = .ok (.ret (.d (.int (if m = "in" then i else o)))) st := by
  refine ⟨A v s m g (some (.d (.int lo))) o4 o5 (some (.d (.int i))) (some (.d (.int o))) o8 o9 o10, rfl, ?_⟩
  rcases hm with rfl | rfl <;> simp [b__law_at_6, A]
theorem at_6 (hs : shp (.str m) = true) (h1 : m ≠ "in") (h2 : m ≠ "out") (i o : Int) (o4 o5 o8 o9 o10 : Option O) : b__law_at_6 (A v s m g (some (.d (.int lo))) o4 o5 (some (.d (.int i))) (some (.d (.int o))) o8 o9 o10) = .ok .next (A v s m g (some (.d (.int lo))) o4 o5 (some (.d (.int i))) (some (.d (.int o))) o8 o9 o10) := by
  simp [b__law_at_6, A, hs, h1, h2]
theorem at_7 (o5 o6 o7 : Option O) : b__law_at_7 (A v s m g (some (.d (.int lo))) (some (.d (.list [.int lo, .int hi]))) o5 o6 o7 none none none) = .ok .next (A v s m g (some (.d (.int lo))) (some (.d (.list [.int lo, .int hi]))) o5 o6 o7 (some (.lst [.int (absI (lo - v)), .int (absI (hi - v))])) none none) := by
  have c : c__law_at_2 (A v s m g (some (.d (.int lo))) (some (.d (.list [.int lo, .int hi]))) o5 o6 o7 none none none) = .ok (.lst [.int (absI (lo - v)), .int (absI (hi - v))]) (A v s m g (some (.d (.int lo))) (some (.d (.list [.int lo, .int hi]))) o5 o6 o7 none none none) :=
    xComp_all (enc := PyData.int) (F := fun n => .int (absI (n - v))) [lo, hi] (by simp [iSeq, A]) (.inl rfl) (fun n _ => ⟨.d (.int (absI (n - v))), by simp [u__law_at_2, A, absC, one, absI], rfl⟩) (by simp)
  unfold b__law_at_7 sAsg
  rw [c]
  simp [A]
theorem at_8r (p q i : Int) (hd : (p < q ∧ i = lo) ∨ (q < p ∧ i = hi)) (o5 o6 o7 o9 o10 : Option O) : ∃ st, st.g = g ∧ b__law_at_8 (A v s m g (some (.d (.int lo))) (some (.d (.list [.int lo, .int hi]))) o5 o6 o7 (some (.lst [.int p, .int q])) o9 o10) = .ok (.ret (.d (.int i))) st := by
  have a1 : ∀ x y : PyData, atI [x, y] 1 = some y := fun x y => by simp [atI, ixN]
  refine ⟨A v s m g (some (.d (.int lo))) (some (.d (.list [.int lo, .int hi]))) o5 o6 o7 (some (.d (.list [.int p, .int q]))) o9 o10, rfl, ?_⟩
  rcases hd with ⟨h1, rfl⟩ | ⟨h1, rfl⟩
  · have h3 : p ≠ q := by omega
    simp [b__law_at_8, A, minC, one, intsO, intsD, minI_two, h1, h3, idxD, flatD, a1]
  · have h2 : ¬ p < q := by omega
    have h3 : p ≠ q := by omega
    simp [b__law_at_8, A, minC, one, intsO, intsD, minI_two, h1, h2, h3, idxD, flatD, a1]
theorem at_8 (p : Int) (o4 o5 o6 o7 o9 o10 : Option O) : b__law_at_8 (A v s m g (some (.d (.int lo))) o4 o5 o6 o7 (some (.lst [.int p, .int p])) o9 o10) = .ok .next (A v s m g (some (.d (.int lo))) o4 o5 o6 o7 (some (.lst [.int p, .int p])) o9 o10) := by
  have a1 : ∀ x y : PyData, atI [x, y] 1 = some y := fun x y => by simp [atI, ixN]
  simp [b__law_at_8, A, a1]
theorem at_9 (hs : 0 < s) (hs2 : s < 1000) (ev od : Int) (h : (lo / s % 2 = 0 ∧ hi / s % 2 = 1 ∧ ev = lo ∧ od = hi) ∨ (lo / s % 2 = 1 ∧ hi / s % 2 = 0 ∧ ev = hi ∧ od = lo)) (o5 o6 o7 o8 : Option O) :
    b__law_at_9 (A v s m g (some (.d (.int lo))) (some (.d (.list [.int lo, .int hi]))) o5 o6 o7 o8 none none) = .ok .next (A v s m g (some (.d (.int lo))) (some (.d (.list [.int lo, .int hi]))) o5 o6 o7 o8 (some (.lst [.int ev])) none) ∧
    b__law_at_10 (A v s m g (some (.d (.int lo))) (some (.d (.list [.int lo, .int hi]))) o5 o6 o7 o8 (some (.lst [.int ev])) none) = .ok .next (A v s m g (some (.d (.int lo))) (some (.d (.list [.int lo, .int hi]))) o5 o6 o7 o8 (some (.lst [.int ev])) (some (.lst [.int od]))) := by
  have hs3 : (s : Int) < 1073741824 := by omega
  have c1 : c__law_at_3 (A v s m g (some (.d (.int lo))) (some (.d (.list [.int lo, .int hi]))) o5 o6 o7 o8 none none) = .ok (.lst (([lo, hi].filter fun (n : Int) => decide (n / (s : Int) % 2 = 0)).map .int)) (A v s m g (some (.d (.int lo))) (some (.d (.list [.int lo, .int hi]))) o5 o6 o7 o8 none none) :=
    xComp_of (enc := PyData.int) (P := fun (n : Int) => decide (n / (s : Int) % 2 = 0)) (F := PyData.int) [lo, hi] (by simp [iSeq, A]) (.inl rfl) (fun n _ => by simp [v__law_at_3, A, hs, hs3]) (fun n _ _ => ⟨.d (.int n), by simp [u__law_at_3, A], rfl⟩) (by simp)
  have c2 : c__law_at_4 (A v s m g (some (.d (.int lo))) (some (.d (.list [.int lo, .int hi]))) o5 o6 o7 o8 (some (.lst [.int ev])) none) = .ok (.lst (([lo, hi].filter fun (n : Int) => decide (n / (s : Int) % 2 = 1)).map .int)) (A v s m g (some (.d (.int lo))) (some (.d (.list [.int lo, .int hi]))) o5 o6 o7 o8 (some (.lst [.int ev])) none) :=
    xComp_of (enc := PyData.int) (P := fun (n : Int) => decide (n / (s : Int) % 2 = 1)) (F := PyData.int) [lo, hi] (by simp [iSeq, A]) (.inl rfl) (fun n _ => by simp [v__law_at_4, A, hs, hs3]) (fun n _ _ => ⟨.d (.int n), by simp [u__law_at_4, A], rfl⟩) (by simp)
  constructor
  · unfold b__law_at_9 sAsg
    rw [c1]
    rcases h with ⟨h1, h2, rfl, rfl⟩ | ⟨h1, h2, rfl, rfl⟩ <;> simp [A, h1, h2]
  · unfold b__law_at_10 sAsg
    rw [c2]
    rcases h with ⟨h1, h2, rfl, rfl⟩ | ⟨h1, h2, rfl, rfl⟩ <;> simp [A, h1, h2]
theorem at_11 (i o ev od : Int) (o3 o5 o8 : Option O) (hm : m = "neardown" ∨ m = "nearup" ∨ m = "nearin" ∨ m = "nearout" ∨ m = "neareven" ∨ m = "nearodd") : ∃ st, st.g = g ∧
    b__law_at_11 (A v s m g o3 (some (.d (.list [.int lo, .int hi]))) o5 (some (.d (.int i))) (some (.d (.int o))) o8 (some (.lst [.int ev])) (some (.lst [.int od]))) =
      .ok (.ret (.d (.int (if m = "neardown" then lo else if m = "nearup" then hi else if m = "nearin" then i else if m = "nearout" then o else if m = "neareven" then ev else od)))) st := by
  have a1 : ∀ x y : PyData, atI [x, y] 1 = some y := fun x y => by simp [atI, ixN]
  refine ⟨A v s m g o3 (some (.d (.list [.int lo, .int hi]))) o5 (some (.d (.int i))) (some (.d (.int o))) o8 (some (.lst [.int ev])) (some (.lst [.int od])), rfl, ?_⟩
  rcases hm with rfl | rfl | rfl | rfl | rfl | rfl <;> simp [b__law_at_11, A, xDSub, xPs, lkD, a1]
end
theorem at_end {v : Int} {s : Nat} {m : Str} {g : List Cell} {z : Int} {st : Tr.St} (hg : st.g = g) (h : b__law_at 4000 (A v s m g none none none none none none none none) = .ok (.ret (.d (.int z))) st) : s__law_at [.d (.int v), .d (.int s), .d (.str m)] g = .ok (.d (.int z)) g := by
  show (match b__law_at 4000 (A v s m g none none none none none none none none) with
    | .ok .next st => FOut.ok (.d .none) st.g
    | .ok (.ret o) st => .ok o st.g
    | .exc c st => .exc c st.g
    | _ => .no) = _
  rw [h, ← hg]
theorem p_law_at (v : Int) (s : Nat) (m : Str) (g : List Cell) (hs : 0 < s) (hs2 : s < 1000) (hm : m = "down" ∨ m = "up" ∨ m = "in" ∨ m = "out" ∨ m = "neardown" ∨ m = "nearup" ∨ m = "nearin" ∨ m = "nearout" ∨ m = "neareven" ∨ m = "nearodd") :
    s__law_at [.d (.int v), .d (.int s), .d (.str m)] g = .ok (.d (.int (bt v s m))) g := by
  have h0 : (0 : Int) < s := by omega
  have hsh : shp (.str m) = true := by rcases hm with e | e | e | e | e | e | e | e | e | e <;> rw [e] <;> simp
  by_cases h : v / s * s = v
  · rw [at_same v s m g hs hs2 h]
    congr 3
    unfold bt
    simp [h]
  · have e0 := at_0 v s m g hs hs2
    have q1 := Int.mul_ediv_add_emod v s
    have q2 := Int.emod_nonneg v (Int.ne_of_gt h0)
    have q3 := Int.emod_lt_of_pos v h0
    have q4 : v / s * s = v - v % s := by rw [Int.mul_comm]; omega
    have w1 : v / s * s / (s : Int) = v / s := Int.mul_ediv_cancel _ (Int.ne_of_gt h0)
    have w2 : (v / s * s + s) / (s : Int) = v / s + 1 := by
      rw [show v / s * s + s = (v / s + 1) * s by rw [Int.add_mul]; omega]
      exact Int.mul_ediv_cancel _ (Int.ne_of_gt h0)
    have sg : (0 ≤ v / s * s ∧ 0 ≤ v / s) ∨ (v / s * s + s ≤ 0 ∧ v / s < 0) := by
      by_cases c : 0 ≤ v / s
      · exact .inl ⟨Int.mul_nonneg c (by omega), c⟩
      · refine .inr ⟨?_, by omega⟩
        rw [show v / s * s + s = (v / s + 1) * s by rw [Int.add_mul]; omega]
        exact Int.mul_nonpos_of_nonpos_of_nonneg (by omega) (by omega)
    obtain ⟨lo, hlo⟩ : ∃ lo, lo = v / s * s := ⟨_, rfl⟩
    obtain ⟨hi, hhi⟩ : ∃ hi, hi = lo + s := ⟨_, rfl⟩
    rw [← hlo] at e0 h q4 w1 w2 sg
    rw [← hhi] at w2 sg
    have e1 := at_1 v lo hi s m g h hhi.symm
    have e2 := at_2 v lo hi s m g none none none none none none
    have ebt : bt v s m = if m = "down" then lo else if m = "up" then hi else
        if m = "in" ∨ m = "out" then (if (decide (0 ≤ v) = decide (m = "in")) then lo else hi) else
        if v - lo ≠ hi - v then (if v - lo < hi - v then lo else hi) else nearer lo hi m s := by
      have hne : lo ≠ hi := by omega
      unfold bt
      dsimp only
      rw [← hlo, if_neg h, ← hhi]
      simp only [hne, ne_eq, not_false_eq_true, if_true]
    rw [ebt]
    by_cases m1 : m = "down" ∨ m = "up"
    · obtain ⟨st, hg, e3⟩ := at_3r v lo hi s m g (by omega) m1 none none none none none none
      refine at_end hg (z := _) ?_
      unfold b__law_at
      rw [sSeq_next e0, sSeq_next e1, sSeq_next e2, sSeq_ret e3]
      rcases m1 with rfl | rfl <;> simp
    · have n1 : m ≠ "down" := fun e => m1 (.inl e)
      have n2 : m ≠ "up" := fun e => m1 (.inr e)
      have e3 := at_3 v lo hi s m g hsh n1 n2 none none none none none none
      have e4 := at_4 v lo hi s m g
      obtain ⟨i, o, hio, hiv⟩ : ∃ i o : Int, ((absI lo < absI hi ∧ i = lo ∧ o = hi) ∨ (absI hi < absI lo ∧ i = hi ∧ o = lo)) ∧ ((0 ≤ lo ∧ i = lo ∧ o = hi) ∨ (lo < 0 ∧ i = hi ∧ o = lo)) := by
        rcases sg with ⟨c, _⟩ | ⟨c, _⟩
        · exact ⟨lo, hi, .inl ⟨by unfold absI; repeat' split
                                  all_goals omega, rfl, rfl⟩, .inl ⟨c, rfl, rfl⟩⟩
        · exact ⟨hi, lo, .inr ⟨by unfold absI; repeat' split
                                  all_goals omega, rfl, rfl⟩, .inr ⟨by omega, rfl, rfl⟩⟩
      have e5 := at_5 v lo hi s m g _ _ i o hio
      rw [if_neg n1, if_neg n2]
      by_cases m2 : m = "in" ∨ m = "out"
      · obtain ⟨st, hg, e6⟩ := at_6r v lo s m g m2 i o (some (.d (.list [.int lo, .int hi]))) (some (.d (.list [.int (absI lo), .int (absI hi)]))) none none none
        refine at_end hg (z := _) ?_
        unfold b__law_at
        rw [sSeq_next e0, sSeq_next e1, sSeq_next e2, sSeq_next e3, sSeq_next e4, sSeq_next e5, sSeq_ret e6, if_pos m2]
        congr 4
        rcases hiv with ⟨c, rfl, rfl⟩ | ⟨c, rfl, rfl⟩
        · have : 0 ≤ v := by omega
          rcases m2 with rfl | rfl <;> simp [this]
        · have : ¬ 0 ≤ v := by omega
          rcases m2 with rfl | rfl <;> simp [this]
      · have n3 : m ≠ "in" := fun e => m2 (.inl e)
        have n4 : m ≠ "out" := fun e => m2 (.inr e)
        have e6 := at_6 v lo s m g hsh n3 n4 i o (some (.d (.list [.int lo, .int hi]))) (some (.d (.list [.int (absI lo), .int (absI hi)]))) none none none
        have e7 := at_7 v lo hi s m g (some (.d (.list [.int (absI lo), .int (absI hi)]))) (some (.d (.int i))) (some (.d (.int o)))
        have f1 : absI (lo - v) = v - lo := by unfold absI; split <;> omega
        have f2 : absI (hi - v) = hi - v := by unfold absI; split <;> omega
        rw [f1, f2] at e7
        rw [if_neg m2]
        by_cases c : v - lo = hi - v
        · rw [c] at e7
          have e8 := at_8 v lo s m g (hi - v) (some (.d (.list [.int lo, .int hi]))) (some (.d (.list [.int (absI lo), .int (absI hi)]))) (some (.d (.int i))) (some (.d (.int o))) none none
          obtain ⟨ev, od, heo⟩ : ∃ ev od : Int, (lo / s % 2 = 0 ∧ hi / s % 2 = 1 ∧ ev = lo ∧ od = hi) ∨ (lo / s % 2 = 1 ∧ hi / s % 2 = 0 ∧ ev = hi ∧ od = lo) := by
            rw [w1, w2]
            by_cases q : v / (s : Int) % 2 = 0
            · exact ⟨lo, hi, .inl ⟨q, by omega, rfl, rfl⟩⟩
            · exact ⟨hi, lo, .inr ⟨by omega, by omega, rfl, rfl⟩⟩
          obtain ⟨e9, e10⟩ := at_9 v lo hi s m g hs hs2 ev od heo (some (.d (.list [.int (absI lo), .int (absI hi)]))) (some (.d (.int i))) (some (.d (.int o))) (some (.lst [.int (hi - v), .int (hi - v)]))
          have m3 : m = "neardown" ∨ m = "nearup" ∨ m = "nearin" ∨ m = "nearout" ∨ m = "neareven" ∨ m = "nearodd" := by
            rcases hm with e | e | e | e | e
            · exact absurd e n1
            · exact absurd e n2
            · exact absurd e n3
            · exact absurd e n4
            · rcases e with e | e | e | e | e | e <;> simp [e]
          obtain ⟨st, hg, e11⟩ := at_11 v lo hi s m g i o ev od (some (.d (.int lo))) (some (.d (.list [.int (absI lo), .int (absI hi)]))) (some (.lst [.int (hi - v), .int (hi - v)])) m3
          refine at_end hg (z := _) ?_
          unfold b__law_at
          rw [sSeq_next e0, sSeq_next e1, sSeq_next e2, sSeq_next e3, sSeq_next e4, sSeq_next e5, sSeq_next e6, sSeq_next e7, sSeq_next e8, sSeq_next e9, sSeq_next e10, e11, if_neg (show ¬ (v - lo ≠ hi - v) by simpa using c)]
          congr 4
          unfold nearer
          have hne : hi ≠ lo := by omega
          clear e0 e1 e2 e3 e4 e5 e6 e7 e8 e9 e10 e11 hio ebt
          have hne2 : lo ≠ hi := by omega
          rcases heo with ⟨d1, d2, v1, v2⟩ | ⟨d1, d2, v1, v2⟩
          · rcases hiv with ⟨d3, v3, v4⟩ | ⟨d3, v3, v4⟩
            · rw [v1, v2, v3, v4]
              rcases m3 with rfl | rfl | rfl | rfl | rfl | rfl <;> simp [d1, d3]
            · have d4 : ¬ 0 ≤ lo := by omega
              rw [v1, v2, v3, v4]
              rcases m3 with rfl | rfl | rfl | rfl | rfl | rfl <;> simp [d1, d4]
          · have d5 : ¬ lo / (s : Int) % 2 = 0 := by omega
            rcases hiv with ⟨d3, v3, v4⟩ | ⟨d3, v3, v4⟩
            · rw [v1, v2, v3, v4]
              rcases m3 with rfl | rfl | rfl | rfl | rfl | rfl <;> simp [d5, d3, hne]
            · have d4 : ¬ 0 ≤ lo := by omega
              rw [v1, v2, v3, v4]
              rcases m3 with rfl | rfl | rfl | rfl | rfl | rfl <;> simp [d5, d4, hne]
        · obtain ⟨st, hg, e8⟩ := at_8r v lo hi s m g (v - lo) (hi - v) (if v - lo < hi - v then lo else hi) (by
            by_cases q : v - lo < hi - v
            · rw [if_pos q]; exact .inl ⟨q, rfl⟩
            · rw [if_neg q]; exact .inr ⟨by omega, rfl⟩) (some (.d (.list [.int (absI lo), .int (absI hi)]))) (some (.d (.int i))) (some (.d (.int o))) none none
          refine at_end hg (z := _) ?_
          unfold b__law_at
          rw [sSeq_next e0, sSeq_next e1, sSeq_next e2, sSeq_next e3, sSeq_next e4, sSeq_next e5, sSeq_next e6, sSeq_next e7, sSeq_ret e8, if_pos c]
end Lw
namespace Lw
open PySem PySem.Spec PyProof.Rows L2 Tr
/-! ### the law's own writing -/
theorem p_law_bring (w : Way) (v : Int) (g : List Cell) (h : w.Va) : s__law_bring [.d w.D, .d (.int v)] g = .ok (.d (.int (bring w v))) g := by
  have ho := h.ok
  have a1 := ho.s1; have a2 := ho.s2; have a3 := ho.f1; have a4 := ho.f2
  obtain ⟨s, f, m, c⟩ := w
  dsimp only at a1 a2 a3 a4
  have hm := h.m
  dsimp only at hm
  obtain ⟨s, rfl⟩ := Int.eq_ofNat_of_zero_le (by omega : 0 ≤ s)
  obtain ⟨f, rfl⟩ := Int.eq_ofNat_of_zero_le (by omega : 0 ≤ f)
  have e1 := p_law_at v f m g (by omega) (by omega) hm
  have e2 := p_law_at (bt v f m) s m g (by omega) (by omega) hm
  have i1 : ∀ x y z u : PyData, atI [x, y, z, u] 1 = some y := fun x y z u => by simp [atI, ixN]
  have i2 : ∀ x y z u : PyData, atI [x, y, z, u] 2 = some z := fun x y z u => by simp [atI, ixN]
  simp [s__law_bring, b__law_bring, Way.D, i1, i2, e1, e2, bring]
structure StOk (w : Way) (x : Sta) : Prop where
  none : w.c = "none" → x = sta0
  all : w.c = "all" → x.b = 0 ∧ x.t = 0
  signs : w.c = "signs" → x.t = 0
  pairs : w.c = "pairs" → x.b = 0
theorem sta0_ok (w : Way) : StOk w sta0 := ⟨fun _ => rfl, fun _ => ⟨rfl, rfl⟩, fun _ => rfl, fun _ => rfl⟩
theorem after_ok {w : Way} {x : Sta} (n : Int) (h : StOk w x) : StOk w (after w x n) := by
  constructor <;> intro e
  · simp [after, e]; exact h.none e
  · simp [after, e]
  · simp only [after, e]
    simp
    split <;> rfl
  · simp only [after, e]
    simp
    split <;> rfl
theorem p_law_write (w : Way) (x : Sta) (n : Int) (g : List Cell) (h : w.Va) (hx : StOk w x) : s__law_write [.d w.D, .d x.D, .d (.int n)] g = .ok (.d (.tuple [.int (told w x n), (after w x n).D])) g := by
  have e1 := fun v => p_law_bring w v g h
  have hc := h.c
  have hk := h.ok.c
  obtain ⟨ws, wf, wm, wc⟩ := w
  obtain ⟨r, b, t⟩ := x
  have x1 := hx.none; have x2 := hx.all; have x3 := hx.signs; have x4 := hx.pairs
  unfold Way.D at e1
  dsimp only at e1 hc hk x1 x2 x3 x4
  have i1 : ∀ x y z u : PyData, atI [x, y, z, u] 3 = some u := fun x y z u => by simp [atI, ixN]
  have i2 : ∀ x y z : PyData, atI [x, y, z] 1 = some y := fun x y z => by simp [atI, ixN]
  have i3 : ∀ x y z : PyData, atI [x, y, z] 2 = some z := fun x y z => by simp [atI, ixN]
  have i4 : ∀ x y : PyData, atI [x, y] 1 = some y := fun x y => by simp [atI, ixN]
  have i5 : ixN 2 1 = some 1 := by decide
  unfold after left told used
  dsimp only
  rcases hc with rfl | rfl | rfl | rfl
  · obtain ⟨rfl, rfl, rfl⟩ : r = 0 ∧ b = 0 ∧ t = 0 := by have := x1 rfl; simp [sta0] at this; exact this
    simp [s__law_write, b__law_write, Way.D, Sta.D, e1, i1, i2, i3, i4, i5]
  · obtain ⟨rfl, rfl⟩ := x2 rfl
    simp [s__law_write, b__law_write, Way.D, Sta.D, e1, i1, i2, i3, i4, i5]
  · obtain rfl := x3 rfl
    by_cases c5 : n < 0 <;> simp [s__law_write, b__law_write, Way.D, Sta.D, e1, i1, i2, i3, i4, i5, c5]
  · obtain rfl := x4 rfl
    by_cases c5 : t = 0 <;> simp [s__law_write, b__law_write, Way.D, Sta.D, e1, i1, i2, i3, i4, i5, c5]
theorem lrun_step (w : Way) (R : PyData) (T S : List PyData) (x : Sta) (n : Int) (a b : Option O) (g : List Cell) (h : w.Va) (hx : StOk w x) (hT : T.length ≤ 1000) (hS : S.length ≤ 1000) :
    w__law_run_0 s__law_write ⟨[some (.d w.D), some (.d R), some (.lst T), some (.lst (S ++ [x.D])), some (.d (.int n)), a, b], g⟩ =
      .ok .next ⟨[some (.d w.D), some (.d R), some (.lst (T ++ [.int (told w x n)])), some (.lst (S ++ [x.D] ++ [(after w x n).D])), some (.d (.int n)), some (.d (.int (told w x n))), some (.d (after w x n).D)], g⟩ := by
  have e := p_law_write w x n g h hx
  have e2 := atI_last S x.D
  have h3 : T.length ≤ 16000000 := by omega
  have h4 : S.length + 1 ≤ 16000000 := by omega
  simp [w__law_run_0, e, e2, h3, h4]
theorem lrun_loop (w : Way) (R : PyData) (g : List Cell) (h : w.Va) : ∀ (row : List Int) (T S : List PyData) (x : Sta) (c a b : Option O), StOk w x → T.length + row.length ≤ 1000 → S.length + row.length ≤ 1000 → ∃ c' a' b',
    Tr.forM (gN 4) (w__law_run_0 s__law_write) (row.map .int) ⟨[some (.d w.D), some (.d R), some (.lst T), some (.lst (S ++ [x.D])), c, a, b], g⟩ =
      .ok .next ⟨[some (.d w.D), some (.d R), some (.lst (T ++ (tolds w x row).map .int)), some (.lst (S ++ [x.D] ++ (stas w x row).map Sta.D)), c', a', b'], g⟩
  | [], T, S, x, c, a, b, _, _, _ => ⟨c, a, b, by simp [forM_nil, tolds, stas]⟩
  | n :: r, T, S, x, c, a, b, hx, h1, h2 => by
    simp only [List.length_cons] at h1 h2
    have e1 := lrun_step w R T S x n a b g h hx (by omega) (by omega)
    obtain ⟨c', a', b', e2⟩ := lrun_loop w R g h r (T ++ [.int (told w x n)]) (S ++ [x.D]) (after w x n) (some (.d (.int n))) (some (.d (.int (told w x n)))) (some (.d (after w x n).D)) (after_ok n hx) (by simp; omega) (by simp; omega)
    refine ⟨c', a', b', ?_⟩
    rw [List.map_cons, forM_cons (st1 := ⟨[some (.d w.D), some (.d R), some (.lst T), some (.lst (S ++ [x.D])), some (.d (.int n)), a, b], g⟩) rfl e1, e2]
    simp [tolds, stas]
theorem p_law_run (w : Way) (row : List Int) (g : List Cell) (h : w.Va) (hr : row.length ≤ 900) : s__law_run [.d w.D, .d (rowD row)] g = .ok (.d (.tuple [.list ((tolds w sta0 row).map .int), .list (sta0.D :: (stas w sta0 row).map Sta.D)])) g := by
  obtain ⟨c', a', b', e⟩ := lrun_loop w (rowD row) g h row [] [] sta0 none none none (sta0_ok w) (by simpa using (by omega : row.length ≤ 1000)) (by simpa using (by omega : row.length ≤ 1000))
  have e3 : c__law_run_0 s__law_write ⟨[some (.d w.D), some (.d (rowD row)), some (.lst []), some (.lst [.tuple [.int 0, .int 0, .int 0]]), none, none, none], g⟩ = .ok .next ⟨[some (.d w.D), some (.d (rowD row)), some (.lst ((tolds w sta0 row).map .int)), some (.lst (sta0.D :: (stas w sta0 row).map Sta.D)), c', a', b'], g⟩ := by
    have e2 : iSeq (xFz (xVar 1)) ⟨[some (.d w.D), some (.d (rowD row)), some (.lst []), some (.lst [.tuple [.int 0, .int 0, .int 0]]), none, none, none], g⟩ = .ok (row.map .int) ⟨[some (.d w.D), some (.d (rowD row)), some (.lst []), some (.lst [.tuple [.int 0, .int 0, .int 0]]), none, none, none], g⟩ := by simp [iSeq, rowD]
    unfold c__law_run_0
    rw [sFor_eq e2]
    exact e
  simp [s__law_run, b__law_run, e3]
/-! what is told -/
theorem bt_mul (v s : Int) (m : Str) (h : 0 < s) : ∃ q, bt v s m = q * s := by
  have a1 : ∃ q, v / s * s = q * s := ⟨_, rfl⟩
  have a2 : ∃ q, v / s * s + s = q * s := ⟨v / s + 1, by rw [Int.add_mul]; omega⟩
  have n := nearer_or (v / s * s) (if v / s * s = v then v / s * s else v / s * s + s) m s
  unfold bt
  dsimp only
  generalize nearer (v / s * s) (if v / s * s = v then v / s * s else v / s * s + s) m s = z at n ⊢
  generalize v / s * s + s = hi at *
  generalize v / s * s = lo at *
  repeat' split
  all_goals (try split at n)
  all_goals first | exact a1 | exact a2 | (rcases n with e | e <;> rw [e] <;> first | exact a1 | exact a2)
theorem bt_fix (q s : Int) (m : Str) (h : 0 < s) : bt (q * s) s m = q * s := by
  have e : q * s / s * s = q * s := by rw [Int.mul_ediv_cancel _ (Int.ne_of_gt h)]
  unfold bt
  simp [e]
theorem Way.Va.div {w : Way} (h : w.Va) : ∃ q, w.s = q * w.f ∧ 1 ≤ q := by
  rcases h.st with ⟨e1, e2⟩ | ⟨e1, e2⟩ | ⟨e1, e2⟩ | ⟨e1, e2⟩ | ⟨e1, e2⟩ | ⟨e1, e2⟩ | ⟨e1, e2⟩ <;> rw [e1, e2]
  · exact ⟨2, by decide, by decide⟩
  · exact ⟨3, by decide, by decide⟩
  · exact ⟨4, by decide, by decide⟩
  · exact ⟨2, by decide, by decide⟩
  · exact ⟨6, by decide, by decide⟩
  · exact ⟨3, by decide, by decide⟩
  · exact ⟨2, by decide, by decide⟩
theorem bring_mul {w : Way} (h : w.Va) (v : Int) : ∃ q, bring w v = q * w.s := bt_mul _ _ _ (by have := h.ok.s1; omega)
theorem bring_fix {w : Way} (h : w.Va) (q : Int) : bring w (q * w.s) = q * w.s := by
  obtain ⟨k, e, _⟩ := h.div
  have f1 := h.ok.f1
  have s1 := h.ok.s1
  unfold bring
  rw [show q * w.s = (q * k) * w.f by rw [e, Int.mul_assoc], bt_fix _ _ _ (by omega), show (q * k) * w.f = q * w.s by rw [e, Int.mul_assoc], bt_fix _ _ _ (by omega)]
theorem bring_tight {w : Way} (h : w.Va) (v : Int) : -w.s < bring w v - v ∧ bring w v - v < w.s := by
  have f1 := h.ok.f1
  have s1 := h.ok.s1
  have e1 := bt_near v w.f w.m (by omega)
  have e2 := bt_near (bt v w.f w.m) w.s w.m (by omega)
  obtain ⟨k, ek, _⟩ := h.div
  obtain ⟨a, ea⟩ := bt_mul v w.f w.m (by omega)
  obtain ⟨b, eb⟩ := bt_mul (bt v w.f w.m) w.s w.m (by omega)
  unfold bring
  have d : bt (bt v w.f w.m) w.s w.m - bt v w.f w.m = (b * k - a) * w.f := by rw [eb, ea, ek, Int.sub_mul, Int.mul_assoc]
  generalize bt (bt v w.f w.m) w.s w.m = z at *
  generalize bt v w.f w.m = y at *
  rw [ek] at e2 ⊢
  have f0 : 0 < w.f := by omega
  have u1 : b * k - a < k := by
    refine Int.lt_of_mul_lt_mul_right (a := w.f) ?_ (by omega)
    rw [← d]; omega
  have u2 : -k < b * k - a := by
    refine Int.lt_of_mul_lt_mul_right (a := w.f) ?_ (by omega)
    rw [← d, Int.neg_mul]; omega
  have u3 : (b * k - a) * w.f ≤ (k - 1) * w.f := Int.mul_le_mul_of_nonneg_right (by omega) (by omega)
  have u4 : (-(k - 1)) * w.f ≤ (b * k - a) * w.f := Int.mul_le_mul_of_nonneg_right (by omega) (by omega)
  rw [← d, Int.sub_mul, Int.one_mul] at u3
  rw [← d, Int.neg_mul, Int.sub_mul, Int.one_mul] at u4
  omega
end Lw
namespace Lw
open PySem PySem.Spec PyProof.Rows L2 Tr
/-! ### desks in the store -/
def cD (ds : List PyData) : Cell := .lst (ds.map O.d)
abbrev dI (w : Way) (k : Nat) : Cell := .ins "Desk" [("way", .d w.D), ("taken", .obj (k + 1)), ("told", .obj (k + 2)), ("states", .obj (k + 3))]
structure DeskAt (g : List Cell) (k : Nat) (w : Way) (A B C : List PyData) : Prop where
  i : g[k]? = some (dI w k)
  a : g[k + 1]? = some (cD A)
  b : g[k + 2]? = some (cD B)
  c : g[k + 3]? = some (cD C)
def setDk (g : List Cell) (k : Nat) (A B C : List PyData) : List Cell := ((g.set (k + 1) (cD A)).set (k + 2) (cD B)).set (k + 3) (cD C)
theorem setDk_other {g : List Cell} {k j : Nat} {A B C : List PyData} (h1 : j ≠ k + 1) (h2 : j ≠ k + 2) (h3 : j ≠ k + 3) : (setDk g k A B C)[j]? = g[j]? := by
  unfold setDk
  rw [List.getElem?_set_ne (Ne.symm h3), List.getElem?_set_ne (Ne.symm h2), List.getElem?_set_ne (Ne.symm h1)]
theorem DeskAt.upd {g : List Cell} {k : Nat} {w : Way} {A B C : List PyData} (h : DeskAt g k w A B C) (A' B' C' : List PyData) : DeskAt (setDk g k A' B' C') k w A' B' C' := by
  have l1 := (List.getElem?_eq_some_iff.mp h.a).1
  have l2 := (List.getElem?_eq_some_iff.mp h.b).1
  have l3 := (List.getElem?_eq_some_iff.mp h.c).1
  refine ⟨(setDk_other (by omega) (by omega) (by omega)).trans h.i, ?_, ?_, ?_⟩
  · unfold setDk
    rw [List.getElem?_set_ne (by omega), List.getElem?_set_ne (by omega), List.getElem?_set_self l1]
  · unfold setDk
    rw [List.getElem?_set_ne (by omega), List.getElem?_set_self (by simpa using l2)]
  · unfold setDk
    rw [List.getElem?_set_self (by simpa using l3)]
theorem DeskAt.other {g : List Cell} {k j : Nat} {w v : Way} {A B C A' B' C' : List PyData} (h : DeskAt g k w A B C) (hj : j + 4 ≤ k ∨ k + 4 ≤ j) : DeskAt (setDk g j A' B' C') k w A B C :=
  ⟨(setDk_other (by omega) (by omega) (by omega)).trans h.i, (setDk_other (by omega) (by omega) (by omega)).trans h.a, (setDk_other (by omega) (by omega) (by omega)).trans h.b, (setDk_other (by omega) (by omega) (by omega)).trans h.c⟩
theorem DeskAt.same {g g' : List Cell} {k : Nat} {w : Way} {A B C : List PyData} (h : DeskAt g k w A B C) (hk : 3 ≤ k) (e : g'.drop 3 = g.drop 3) : DeskAt g' k w A B C := by
  have q : ∀ j, 3 ≤ j → g'[j]? = g[j]? := fun j hj => by
    obtain ⟨i, rfl⟩ := Nat.exists_eq_add_of_le hj
    rw [← List.getElem?_drop, ← List.getElem?_drop, e]
  exact ⟨(q _ hk).trans h.i, (q _ (by omega)).trans h.a, (q _ (by omega)).trans h.b, (q _ (by omega)).trans h.c⟩
theorem sbeq (a b : Str) : (a == b) = decide (a = b) := by
  cases h : a == b with
  | true => exact (decide_eq_true (eq_of_beq h)).symm
  | false => exact (decide_eq_false fun e => by rw [e, beq_self_eq_true] at h; cases h).symm
theorem dats_map (ds : List PyData) : dats (ds.map O.d) = some ds := by
  induction ds with
  | nil => rfl
  | cons d ds ih => rw [List.map_cons, dats, ih]; rfl
theorem view_d (g : List Cell) (x : PyData) : viewO g (.d x) = .d x := rfl
theorem view_l (g : List Cell) (x : List PyData) : viewO g (.lst x) = .lst x := rfl
theorem view_cD {g : List Cell} {k : Nat} {ds : List PyData} (h : g[k]? = some (cD ds)) : viewO g (.obj k) = .lst ds := by
  unfold viewO
  dsimp only
  rw [h]
  show (match dats (ds.map O.d) with
    | some ds => O.lst ds
    | none => .obj k) = _
  rw [dats_map]
section
variable {g : List Cell} {k : Nat} {w : Way} {A B C : List PyData}
theorem fd_way (h : g[k]? = some (dI w k)) : fldG "Desk" g (.obj k) "way" = some (.d w.D) := by
  unfold fldG; dsimp only; rw [h]; simp
theorem fd_taken (h : g[k]? = some (dI w k)) : fldG "Desk" g (.obj k) "taken" = some (.obj (k + 1)) := by
  unfold fldG; dsimp only; rw [h]; simp [List.lookup, sbeq]
theorem fd_told (h : g[k]? = some (dI w k)) : fldG "Desk" g (.obj k) "told" = some (.obj (k + 2)) := by
  unfold fldG; dsimp only; rw [h]; simp [List.lookup, sbeq]
theorem fd_states (h : g[k]? = some (dI w k)) : fldG "Desk" g (.obj k) "states" = some (.obj (k + 3)) := by
  unfold fldG; dsimp only; rw [h]; simp [List.lookup, sbeq]
theorem app_cD {st : Tr.St} {j : Nat} {ds : List PyData} {d : PyData} (h : st.g[j]? = some (cD ds)) (hs : ds.length ≤ 16000000) : appG (.obj j) [.d d] st = some { st with g := st.g.set j (cD (ds ++ [d])) } := by
  unfold appG
  dsimp only
  rw [h]
  simp [cD, isDO, hs]
theorem isLG_cD {j : Nat} {ds : List PyData} (h : g[j]? = some (cD ds)) : isLG g (.obj j) = true := by
  unfold isLG; dsimp only; rw [h]; rfl
theorem pop_cD {st : Tr.St} {j : Nat} {ds : List PyData} {d : PyData} (h : st.g[j]? = some (cD (ds ++ [d]))) : popG (.obj j) st = some (.d d, { st with g := st.g.set j (cD ds) }) := by
  unfold popG
  dsimp only
  rw [h]
  simp [cD]
theorem DeskAt.isI (h : DeskAt g k w A B C) (m : Str) (hm : ([("way", O.d w.D), ("taken", .obj (k + 1)), ("told", .obj (k + 2)), ("states", .obj (k + 3))] : List (Str × O)).lookup m = none) : isIns "Desk" m g (.obj k) = true := by
  unfold isIns; dsimp only; rw [h.i]
  simp [hm]
end
/-! what is written, number by number -/
theorem tolds_snoc (w : Way) : ∀ (T : List Int) (x : Sta) (n : Int), tolds w x (T ++ [n]) = tolds w x T ++ [told w (fin w x T) n]
  | [], x, n => rfl
  | m :: T, x, n => by
    rw [List.cons_append, tolds, tolds_snoc w T, tolds, fin]; rfl
theorem stas_snoc (w : Way) : ∀ (T : List Int) (x : Sta) (n : Int), stas w x (T ++ [n]) = stas w x T ++ [after w (fin w x T) n]
  | [], x, n => rfl
  | m :: T, x, n => by
    rw [List.cons_append, stas, stas_snoc w T, stas, fin]; rfl
def staL (w : Way) (T : List Int) : List Sta := sta0 :: stas w sta0 T
theorem staL_snoc (w : Way) (T : List Int) (n : Int) : staL w (T ++ [n]) = staL w T ++ [after w (fin w sta0 T) n] := by
  unfold staL
  rw [stas_snoc, List.cons_append]
theorem staL_last (w : Way) (T : List Int) : atI ((staL w T).map Sta.D) (-1) = some (fin w sta0 T).D := by
  obtain ⟨p, e⟩ := stas_last w sta0 T
  unfold staL
  rw [e, List.map_append, List.map_singleton]
  exact atI_last _ _
abbrev DeskT (g : List Cell) (k : Nat) (w : Way) (T : List Int) : Prop := DeskAt g k w (T.map .int) ((tolds w sta0 T).map .int) ((staL w T).map Sta.D)
def setT (g : List Cell) (k : Nat) (w : Way) (T : List Int) : List Cell := setDk g k (T.map .int) ((tolds w sta0 T).map .int) ((staL w T).map Sta.D)
theorem p_check_number (n : Int) (g : List Cell) (h : -4 ≤ n ∧ n ≤ 4) : s_check_number [.d (.int n)] g = .ok (.d .none) g := by
  simp [s_check_number, b_check_number, p_is_number, h]
theorem p_put (g : List Cell) (k : Nat) (w : Way) (T : List Int) (n : Int) (v : w.Va) (h : DeskT g k w T) (hn : -4 ≤ n ∧ n ≤ 4) (hT : T.length < 100) : s_Desk_put [.obj k, .d (.int n)] g = .ok (.d (.int (told w (fin w sta0 T) n))) (setT g k w (T ++ [n])) := by
  have q1 := p_check_number n g hn
  have q2 := p_write w (fin w sta0 T) n g v.ok
  have la := staL_last w T
  have hl : (T.map PyData.int).length = T.length := List.length_map ..
  have hl2 : ((tolds w sta0 T).map PyData.int).length = T.length := by rw [List.length_map, tolds_len]
  have hl3 : ((staL w T).map Sta.D).length = T.length + 1 := by simp [staL, stas_len]
  have ne : ¬ ((T.length : Int) = 100) := by omega
  unfold setT
  rw [tolds_snoc, staL_snoc, List.map_append, List.map_append, List.map_append, List.map_singleton, List.map_singleton, List.map_singleton]
  unfold setDk
  have e1 : ∀ st : Tr.St, st.g = g → appG (.obj (k + 1)) [.d (.int n)] st = some { st with g := g.set (k + 1) (cD (T.map .int ++ [.int n])) } := fun st hst => by
    subst hst
    exact app_cD h.a (by omega)
  generalize hA : g.set (k + 1) (cD (T.map .int ++ [.int n])) = gA at e1
  have iA : gA[k]? = some (dI w k) := by rw [← hA, List.getElem?_set_ne (by omega)]; exact h.i
  have bA : gA[k + 2]? = some (cD ((tolds w sta0 T).map .int)) := by rw [← hA, List.getElem?_set_ne (by omega)]; exact h.b
  have cA : gA[k + 3]? = some (cD ((staL w T).map Sta.D)) := by rw [← hA, List.getElem?_set_ne (by omega)]; exact h.c
  have e2 : ∀ st : Tr.St, st.g = gA → appG (.obj (k + 2)) [.d (.int (told w (fin w sta0 T) n))] st = some { st with g := gA.set (k + 2) (cD ((tolds w sta0 T).map .int ++ [.int (told w (fin w sta0 T) n)])) } := fun st hst => by
    subst hst
    exact app_cD bA (by omega)
  generalize hB : gA.set (k + 2) (cD ((tolds w sta0 T).map .int ++ [.int (told w (fin w sta0 T) n)])) = gB at e2
  have iB : gB[k]? = some (dI w k) := by rw [← hB, List.getElem?_set_ne (by omega)]; exact iA
  have cB : gB[k + 3]? = some (cD ((staL w T).map Sta.D)) := by rw [← hB, List.getElem?_set_ne (by omega)]; exact cA
  have e3 : ∀ st : Tr.St, st.g = gB → appG (.obj (k + 3)) [.d (after w (fin w sta0 T) n).D] st = some { st with g := gB.set (k + 3) (cD ((staL w T).map Sta.D ++ [(after w (fin w sta0 T) n).D])) } := fun st hst => by
    subst hst
    exact app_cD cB (by omega)
  have f1 := fd_way h.i
  have f2 := fd_taken h.i
  have f4 := fd_states h.i
  have f3A := fd_told iA
  have f4B := fd_states iB
  have v1 := view_cD h.a
  have v3 := view_cD h.c
  have l1 := isLG_cD h.a
  have l2 := isLG_cD bA
  have l3 := isLG_cD cB
  have ts : ∀ x : Sta, viewO g (.d x.D) = .d x.D := fun x => rfl
  generalize (T.map PyData.int) = TL at *
  generalize (staL w T).map Sta.D = SL at *
  generalize (tolds w sta0 T).map PyData.int = OL at *
  generalize gB.set (k + 3) (cD (SL ++ [(after w (fin w sta0 T) n).D])) = gC at e3 ⊢
  generalize told w (fin w sta0 T) n = tn at *
  generalize (after w (fin w sta0 T) n).D = an at *
  generalize (fin w sta0 T).D = fn at *
  generalize w.D = wd at *
  simp [s_Desk_put, b_Desk_put, q1, q2, xFld, f1, f2, f4, f3A, f4B, xLenV, v1, v3, xOpG, hl, ne, k_MOST_TAKEN, view_d, view_l, la, sAppV, l1, l2, l3, e1, e2, e3]
end Lw
namespace Lw
open PySem PySem.Spec PyProof.Rows L2 Tr
/-! ### instances that are made -/
section
variable {c : Str} {L : List (Option O)} {g r : List Cell} {fs : List (Str × O)} {f : Str}
theorem getI (x : Cell) : (g ++ x :: r)[g.length]? = some x := by simp
theorem setI (x y : Cell) : (g ++ x :: r).set g.length y = g ++ y :: r := by simp
theorem setFG_d (x : PyData) (h : fs.length < 100) : setFG c (.obj g.length) f (.d x) ⟨L, g ++ .ins c fs :: r⟩ = some ⟨L, g ++ .ins c (putO f (.d x) fs) :: r⟩ := by
  unfold setFG
  dsimp only
  rw [getI]
  dsimp only
  rw [if_pos ⟨rfl, h⟩, setI]
theorem setFG_l (ds : List PyData) (h : fs.length < 100) : setFG c (.obj g.length) f (.lst ds) ⟨L, g ++ .ins c fs :: r⟩ = some ⟨L, g ++ .ins c (putO f (.obj (g.length + 1 + r.length)) fs) :: (r ++ [cD ds])⟩ := by
  unfold setFG
  dsimp only
  rw [getI]
  dsimp only
  rw [if_pos ⟨rfl, h⟩]
  have e : g ++ Cell.ins c fs :: r ++ [Cell.lst (ds.map .d)] = g ++ Cell.ins c fs :: (r ++ [cD ds]) := by simp [cD]
  have e2 : (g ++ Cell.ins c fs :: r).length = g.length + 1 + r.length := by simp; omega
  rw [e, setI, e2]
theorem setFG_dc (ds : List (PyData × PyData)) (h : fs.length < 100) : setFG c (.obj g.length) f (.dct ds) ⟨L, g ++ .ins c fs :: r⟩ = some ⟨L, g ++ .ins c (putO f (.obj (g.length + 1 + r.length)) fs) :: (r ++ [.dct ds])⟩ := by
  unfold setFG
  dsimp only
  rw [getI]
  dsimp only
  rw [if_pos ⟨rfl, h⟩]
  have e : g ++ Cell.ins c fs :: r ++ [Cell.dct ds] = g ++ Cell.ins c fs :: (r ++ [.dct ds]) := by simp
  have e2 : (g ++ Cell.ins c fs :: r).length = g.length + 1 + r.length := by simp; omega
  rw [e, setI, e2]
end
theorem p_desk_init (w : Way) (g : List Cell) (v : w.Va) : s_Desk___init__ [.obj g.length, .d w.D] (g ++ [.ins "Desk" []]) = .ok (.d .none) (g ++ [dI w g.length, cD [], cD [], cD [sta0.D]]) := by
  have q := p_check_way w (g ++ [.ins "Desk" []]) v
  simp [s_Desk___init__, b_Desk___init__, q, sSetF, setFG_d, setFG_l, putO, k_START, Sta.D, sta0]
section
variable {g : List Cell} {k : Nat} {w : Way} {T : List Int}
theorem p_state (h : DeskT g k w T) : s_Desk_state [.obj k] g = .ok (.d (fin w sta0 T).D) g := by
  have la := staL_last w T
  have f4 := fd_states h.i
  have v3 := view_cD h.c
  generalize (staL w T).map Sta.D = SL at *
  simp [s_Desk_state, b_Desk_state, xFld, f4, xOpG, v3, view_d, la]
theorem p_numbers (h : DeskT g k w T) : s_Desk_numbers [.obj k] g = .ok (.lst (T.map .int)) g := by
  have f := fd_taken h.i
  have v := view_cD h.a
  generalize T.map PyData.int = SL at *
  simp [s_Desk_numbers, b_Desk_numbers, xFld, f, xListV, v]
theorem p_lines (h : DeskT g k w T) : s_Desk_lines [.obj k] g = .ok (.lst ((tolds w sta0 T).map .int)) g := by
  have f := fd_told h.i
  have v := view_cD h.b
  generalize (tolds w sta0 T).map PyData.int = SL at *
  simp [s_Desk_lines, b_Desk_lines, xFld, f, xListV, v]
theorem p_len (h : DeskT g k w T) : s_Desk___len__ [.obj k] g = .ok (.d (.int T.length)) g := by
  have f := fd_taken h.i
  have v := view_cD h.a
  have l : (T.map PyData.int).length = T.length := List.length_map ..
  generalize T.map PyData.int = SL at *
  simp [s_Desk___len__, b_Desk___len__, xFld, f, xLenV, v, lenO, l]
theorem p_put_bad (h : DeskT g k w T) (d : PyData) (hd : s_is_number [.d d] g = .ok (.d (.bool false)) g) : s_Desk_put [.obj k, .d d] g = .exc "BadRow" g := by
  simp [s_Desk_put, b_Desk_put, s_check_number, b_check_number, hd]
theorem p_put_full (h : DeskT g k w T) (n : Int) (hn : -4 ≤ n ∧ n ≤ 4) (hl : T.length = 100) : s_Desk_put [.obj k, .d (.int n)] g = .exc "BadNumber" g := by
  have q1 := p_check_number n g hn
  have f := fd_taken h.i
  have v := view_cD h.a
  have l : (T.map PyData.int).length = 100 := by rw [List.length_map, hl]
  generalize T.map PyData.int = SL at *
  simp [s_Desk_put, b_Desk_put, q1, xFld, f, xLenV, v, lenO, l, k_MOST_TAKEN]
theorem p_undo_none (h : DeskT g k w []) : s_Desk_undo [.obj k] g = .exc "NotFound" g := by
  have f := fd_taken h.i
  have v := view_cD h.a
  simp [s_Desk_undo, b_Desk_undo, xFld, f, xOpG, v, view_l]
/-- all else stays -/
structure Oth (g g' : List Cell) (k : Nat) : Prop where
  o : ∀ j, j ≠ k + 1 → j ≠ k + 2 → j ≠ k + 3 → g'[j]? = g[j]?
  l : g'.length = g.length
theorem oth_setDk (g : List Cell) (k : Nat) (A B C : List PyData) : Oth g (setDk g k A B C) k := ⟨fun j h1 h2 h3 => setDk_other h1 h2 h3, by unfold setDk; simp⟩
theorem Oth.desk {g g' : List Cell} {j k : Nat} {w : Way} {A B C : List PyData} (o : Oth g g' j) (h : DeskAt g k w A B C) (hj : j + 4 ≤ k ∨ k + 4 ≤ j) : DeskAt g' k w A B C :=
  ⟨(o.o _ (by omega) (by omega) (by omega)).trans h.i, (o.o _ (by omega) (by omega) (by omega)).trans h.a, (o.o _ (by omega) (by omega) (by omega)).trans h.b, (o.o _ (by omega) (by omega) (by omega)).trans h.c⟩
theorem Oth.dr {g g' rst : List Cell} {k : Nat} (o : Oth g g' k) (h : DrX rst g) (hk : 3 ≤ k) : ∃ rst', DrX rst' g' := by
  obtain ⟨sc, ns, c, hn, e⟩ := h.ex
  refine ⟨g'.drop 3, sc, ns, c, hn, ?_⟩
  refine List.ext_getElem? fun j => ?_
  by_cases hj : j < 3
  · rw [o.o j (by omega) (by omega) (by omega), e, List.getElem?_append_left (by simpa [DG] using hj), List.getElem?_append_left (by simpa [DG] using hj)]
  · rw [List.getElem?_append_right (by simp [DG]; omega), List.getElem?_drop]
    congr 1
    simp [DG]
    omega
theorem p_undo (n : Int) (h : DeskT g k w (T ++ [n])) : ∃ g', s_Desk_undo [.obj k] g = .ok (.d (.int n)) g' ∧ DeskT g' k w T ∧ Oth g g' k := by
  have ha := h.a
  have hb := h.b
  have hc := h.c
  rw [List.map_append, List.map_singleton] at ha
  rw [tolds_snoc, List.map_append, List.map_singleton] at hb
  rw [staL_snoc, List.map_append, List.map_singleton] at hc
  have f := fd_taken h.i
  have f4 := fd_states h.i
  have v := view_cD ha
  have la := (List.getElem?_eq_some_iff.mp ha).1
  have lb := (List.getElem?_eq_some_iff.mp hb).1
  have lc := (List.getElem?_eq_some_iff.mp hc).1
  have e1 : ∀ st : Tr.St, st.g = g → popG (.obj (k + 3)) st = some (.d (after w (fin w sta0 T) n).D, { st with g := g.set (k + 3) (cD ((staL w T).map Sta.D)) }) := fun st hst => by
    subst hst
    exact pop_cD hc
  have i1 : (g.set (k + 3) (cD ((staL w T).map Sta.D)))[k]? = some (dI w k) := by rw [List.getElem?_set_ne (by omega)]; exact h.i
  have b1 := (List.getElem?_set_ne (l := g) (a := cD ((staL w T).map Sta.D)) (show k + 3 ≠ k + 2 by omega)).trans hb
  have a1 := (List.getElem?_set_ne (l := g) (a := cD ((staL w T).map Sta.D)) (show k + 3 ≠ k + 1 by omega)).trans ha
  have c1 : (g.set (k + 3) (cD ((staL w T).map Sta.D)))[k + 3]? = some (cD ((staL w T).map Sta.D)) := List.getElem?_set_self lc
  have o1 : Oth g (g.set (k + 3) (cD ((staL w T).map Sta.D))) k := ⟨fun j h1 h2 h3 => List.getElem?_set_ne (Ne.symm h3), by simp⟩
  generalize g.set (k + 3) (cD ((staL w T).map Sta.D)) = gA at e1 i1 b1 a1 c1 o1
  have e2 : ∀ st : Tr.St, st.g = gA → popG (.obj (k + 2)) st = some (.d (.int (told w (fin w sta0 T) n)), { st with g := gA.set (k + 2) (cD ((tolds w sta0 T).map .int)) }) := fun st hst => by
    subst hst
    exact pop_cD b1
  have i2 : (gA.set (k + 2) (cD ((tolds w sta0 T).map .int)))[k]? = some (dI w k) := by rw [List.getElem?_set_ne (by omega)]; exact i1
  have a2 := (List.getElem?_set_ne (l := gA) (a := cD ((tolds w sta0 T).map .int)) (show k + 2 ≠ k + 1 by omega)).trans a1
  have b2 : (gA.set (k + 2) (cD ((tolds w sta0 T).map .int)))[k + 2]? = some (cD ((tolds w sta0 T).map .int)) := List.getElem?_set_self (by rw [o1.l]; exact lb)
  have c2 : (gA.set (k + 2) (cD ((tolds w sta0 T).map .int)))[k + 3]? = some (cD ((staL w T).map Sta.D)) := by rw [List.getElem?_set_ne (by omega)]; exact c1
  have o2 : Oth g (gA.set (k + 2) (cD ((tolds w sta0 T).map .int))) k := ⟨fun j h1 h2 h3 => (List.getElem?_set_ne (Ne.symm h2)).trans (o1.o j h1 h2 h3), by simp [o1.l]⟩
  generalize gA.set (k + 2) (cD ((tolds w sta0 T).map .int)) = gB at e2 i2 a2 b2 c2 o2
  have e3 : ∀ st : Tr.St, st.g = gB → popG (.obj (k + 1)) st = some (.d (.int n), { st with g := gB.set (k + 1) (cD (T.map .int)) }) := fun st hst => by
    subst hst
    exact pop_cD a2
  have fB := fd_told i1
  have fC := fd_taken i2
  refine ⟨gB.set (k + 1) (cD (T.map .int)), ?_, ⟨?_, ?_, ?_, ?_⟩, ⟨fun j h1 h2 h3 => (List.getElem?_set_ne (Ne.symm h1)).trans (o2.o j h1 h2 h3), by simp [o2.l]⟩⟩
  · have lne : PyData.eqvAll (T.map PyData.int ++ [.int n]) [] = false := by cases T <;> simp
    have ly : layL 63 (T.map PyData.int ++ [.int n]) = true := by
      have := layL_ints 63 (T ++ [n])
      rwa [List.map_append, List.map_singleton] at this
    generalize T.map PyData.int ++ [.int n] = TN at *
    simp [s_Desk_undo, b_Desk_undo, xFld, f, f4, fB, fC, xOpG, v, view_l, lne, ly, xPopV, e1, e2, e3]
  · rw [List.getElem?_set_ne (by omega)]; exact i2
  · exact List.getElem?_set_self (by rw [o2.l]; exact la)
  · rw [List.getElem?_set_ne (by omega)]; exact b2
  · rw [List.getElem?_set_ne (by omega)]; exact c2
end
end Lw
namespace Lw
open PySem PySem.Spec PyProof.Rows L2 Tr
/-! ### the law's call -/
theorem p_err_none (g : List Cell) : s__law_error [.xcp "NotFound"] g = .ok (.d (.str "none")) g := by
  have l1 : sub_BadWay.lookup ("NotFound" : Str) = some false := by decide +kernel
  have l2 : sub_BadRow.lookup ("NotFound" : Str) = some false := by decide +kernel
  have l3 : sub_BadWritten.lookup ("NotFound" : Str) = some false := by decide +kernel
  have l4 : sub_BadNumber.lookup ("NotFound" : Str) = some false := by decide +kernel
  have l5 : sub_BadText.lookup ("NotFound" : Str) = some false := by decide +kernel
  have l6 : sub_NotFound.lookup ("NotFound" : Str) = some true := by decide +kernel
  have l7 : sub_RestError.lookup ("NotFound" : Str) = some true := by decide +kernel
  have l8 : sub_ValueError.lookup ("NotFound" : Str) = some true := by decide +kernel
  have i5 : ∀ a b c d e f : PyData, atI [a, b, c, d, e, f] 5 = some f := fun a b c d e f => by simp [atI, ixN]
  simp [s__law_error, b__law_error, xIsX, l1, l2, l3, l4, l5, l6, l7, l8, idxD, flatD, i5]
theorem p_err_row (g : List Cell) : s__law_error [.xcp "BadRow"] g = .ok (.d (.str "row")) g := by
  have l1 : sub_BadWay.lookup ("BadRow" : Str) = some false := by decide +kernel
  have l2 : sub_BadRow.lookup ("BadRow" : Str) = some true := by decide +kernel
  have l3 : sub_BadWritten.lookup ("BadRow" : Str) = some false := by decide +kernel
  have l4 : sub_BadNumber.lookup ("BadRow" : Str) = some false := by decide +kernel
  have l5 : sub_BadText.lookup ("BadRow" : Str) = some false := by decide +kernel
  have l6 : sub_NotFound.lookup ("BadRow" : Str) = some false := by decide +kernel
  have l7 : sub_RestError.lookup ("BadRow" : Str) = some true := by decide +kernel
  have l8 : sub_ValueError.lookup ("BadRow" : Str) = some true := by decide +kernel
  have i5 : ∀ a b c d e f : PyData, atI [a, b, c, d, e, f] 1 = some b := fun a b c d e f => by simp [atI, ixN]
  simp [s__law_error, b__law_error, xIsX, l1, l2, l3, l4, l5, l6, l7, l8, idxD, flatD, i5]
theorem p_err_number (g : List Cell) : s__law_error [.xcp "BadNumber"] g = .ok (.d (.str "number")) g := by
  have l1 : sub_BadWay.lookup ("BadNumber" : Str) = some false := by decide +kernel
  have l2 : sub_BadRow.lookup ("BadNumber" : Str) = some false := by decide +kernel
  have l3 : sub_BadWritten.lookup ("BadNumber" : Str) = some false := by decide +kernel
  have l4 : sub_BadNumber.lookup ("BadNumber" : Str) = some true := by decide +kernel
  have l5 : sub_BadText.lookup ("BadNumber" : Str) = some false := by decide +kernel
  have l6 : sub_NotFound.lookup ("BadNumber" : Str) = some false := by decide +kernel
  have l7 : sub_RestError.lookup ("BadNumber" : Str) = some true := by decide +kernel
  have l8 : sub_ValueError.lookup ("BadNumber" : Str) = some true := by decide +kernel
  have i5 : ∀ a b c d e f : PyData, atI [a, b, c, d, e, f] 3 = some d := fun a b c d e f => by simp [atI, ixN]
  simp [s__law_error, b__law_error, xIsX, l1, l2, l3, l4, l5, l6, l7, l8, idxD, flatD, i5]
section
variable {g g' : List Cell} {k : Nat} {w : Way} {A B C : List PyData}
theorem DeskAt.cIs (h : DeskAt g k w A B C) (m : Str) (hm : m ≠ "way" ∧ m ≠ "taken" ∧ m ≠ "told" ∧ m ≠ "states") : isIns "Desk" m g (.obj k) = true := h.isI m (by
  obtain ⟨h1, h2, h3, h4⟩ := hm
  simp [List.lookup, sbeq, h1, h2, h3, h4])
theorem DeskAt.iput (h : DeskAt g k w A B C) : isIns "Desk" "put" g (.obj k) = true := h.cIs _ (by simp)
theorem DeskAt.iundo (h : DeskAt g k w A B C) : isIns "Desk" "undo" g (.obj k) = true := h.cIs _ (by simp)
theorem DeskAt.istate (h : DeskAt g k w A B C) : isIns "Desk" "state" g (.obj k) = true := h.cIs _ (by simp)
theorem DeskAt.inumbers (h : DeskAt g k w A B C) : isIns "Desk" "numbers" g (.obj k) = true := h.cIs _ (by simp)
theorem DeskAt.ilines (h : DeskAt g k w A B C) : isIns "Desk" "lines" g (.obj k) = true := h.cIs _ (by simp)
theorem DeskAt.ilen (h : DeskAt g k w A B C) : isIns "Desk" "__len__" g (.obj k) = true := h.cIs _ (by simp)
theorem call_put (h : DeskAt g k w A B C) (d : PyData) (v : Int) (q : s_Desk_put [.obj k, .d d] g = .ok (.d (.int v)) g') : s__law_call [.obj k, .d (.int 0), .d d] g = .ok (.d (.tuple [.str "told", .int v])) g' := by
  have i := h.iput
  simp [s__law_call, b__law_call, sTry, xMeth, i, callO, q]
theorem call_put_row (h : DeskAt g k w A B C) (d : PyData) (q : s_Desk_put [.obj k, .d d] g = .exc "BadRow" g) : s__law_call [.obj k, .d (.int 0), .d d] g = .ok (.d (.tuple [.str "error", .str "row"])) g := by
  have i := h.iput
  have l7 : sub_RestError.lookup ("BadRow" : Str) = some true := by decide +kernel
  have e3 := p_err_row g
  simp [s__law_call, b__law_call, sTry, xMeth, i, callO, q, l7, e3]
theorem call_put_full (h : DeskAt g k w A B C) (d : PyData) (q : s_Desk_put [.obj k, .d d] g = .exc "BadNumber" g) : s__law_call [.obj k, .d (.int 0), .d d] g = .ok (.d (.tuple [.str "error", .str "number"])) g := by
  have i := h.iput
  have l7 : sub_RestError.lookup ("BadNumber" : Str) = some true := by decide +kernel
  have e3 := p_err_number g
  simp [s__law_call, b__law_call, sTry, xMeth, i, callO, q, l7, e3]
theorem call_undo (h : DeskAt g k w A B C) (n : Int) (q : s_Desk_undo [.obj k] g = .ok (.d (.int n)) g') : s__law_call [.obj k, .d (.int 1), .d (.int 0)] g = .ok (.d (.tuple [.str "told", .int n])) g' := by
  have i := h.iundo
  simp [s__law_call, b__law_call, sTry, xMeth, i, callO, q]
theorem call_undo_none (h : DeskAt g k w A B C) (q : s_Desk_undo [.obj k] g = .exc "NotFound" g) : s__law_call [.obj k, .d (.int 1), .d (.int 0)] g = .ok (.d (.tuple [.str "error", .str "none"])) g := by
  have i := h.iundo
  have l7 : sub_RestError.lookup ("NotFound" : Str) = some true := by decide +kernel
  have e3 := p_err_none g
  simp [s__law_call, b__law_call, sTry, xMeth, i, callO, q, l7, e3]
end
/-- what is no number -/
theorem bad_numbers (d : PyData) (h : d ∈ [PyData.none, .int 5, .int (-5), .bool true, .str "1", .list [.int 1], .tuple [.int 0], .bool false, .int 100]) (g : List Cell) : s_is_number [.d d] g = .ok (.d (.bool false)) g := by
  simp at h
  rcases h with rfl | rfl | rfl | rfl | rfl | rfl | rfl | rfl | rfl <;> first | kernel_rfl | simp [s_is_number, b_is_number, s_is_int, b_is_int, k_WIDEST]
/-! ### the law k14 -/
abbrev LD (w : Way) (line turn told states number bad : Option O) (g : List Cell) : Tr.St := ⟨[some (.obj 0), some (.obj 2), some (.d w.D), some (.obj 3), line, some (.obj 7), turn, told, states, number, bad], g⟩
def wS : Way := ⟨4, 1, "nearup", "all"⟩
theorem wS_va : wS.Va := ⟨by decide, by decide +kernel, by decide +kernel⟩
theorem m2 (w : Way) (v : w.Va) (g : List Cell) (hg : DrX [] g) : ∃ (rst g' : List Cell), DrX rst g' ∧ DeskT g' 3 w [] ∧ DeskT g' 7 wS [] ∧ b_law_2 s_Desk___init__ ⟨[some (.obj 0), some (.obj 2), some (.d w.D), none, none, none, none, none, none, none, none], g⟩ = .ok .next (LD w (some (.lst [])) none none none none none g') := by
  obtain ⟨sc, ns, c, hn, rfl⟩ := hg.ex
  rw [List.append_nil]
  have l3 : (DG sc ns c).length = 3 := rfl
  have q1 := p_desk_init w (DG sc ns c) v
  rw [l3] at q1
  have l7 : (DG sc ns c ++ [dI w 3, cD [], cD [], cD [sta0.D]]).length = 7 := rfl
  have q2 := p_desk_init wS (DG sc ns c ++ [dI w 3, cD [], cD [], cD [sta0.D]]) wS_va
  rw [l7] at q2
  refine ⟨[dI w 3, cD [], cD [], cD [sta0.D]] ++ [dI wS 7, cD [], cD [], cD [sta0.D]], DG sc ns c ++ [dI w 3, cD [], cD [], cD [sta0.D]] ++ [dI wS 7, cD [], cD [], cD [sta0.D]], ⟨sc, ns, c, hn, by rw [List.append_assoc]⟩, ⟨rfl, rfl, rfl, rfl⟩, ⟨rfl, rfl, rfl, rfl⟩, ?_⟩
  have d7 : wS.D = .tuple [.int 4, .int 1, .str "nearup", .str "all"] := rfl
  rw [d7] at q2
  generalize DG sc ns c ++ [dI w 3, cD [], cD [], cD [sta0.D]] ++ [dI wS 7, cD [], cD [], cD [sta0.D]] = G2 at q2 ⊢
  generalize DG sc ns c ++ [dI w 3, cD [], cD [], cD [sta0.D]] = G1 at q1 q2 l7
  generalize DG sc ns c = G0 at *
  simp [b_law_2, xMake, l3, l7, q1, q2]
end Lw
namespace Lw
open PySem PySem.Spec PyProof.Rows L2 Tr
/-! ### states: typed, counted -/
instance : DecidableEq Sta := fun x y =>
  if h : x.r = y.r ∧ x.b = y.b ∧ x.t = y.t then isTrue (by
    obtain ⟨a, b, c⟩ := x
    obtain ⟨d, e, f⟩ := y
    obtain ⟨h1, h2, h3⟩ := h
    cases h1; cases h2; cases h3; rfl)
  else isFalse (by
    rintro rfl
    exact h ⟨rfl, rfl, rfl⟩)
def nums : List Int := [0, 1, -1, 2, -2, 3, -3, 4, -4]
theorem nums_mem (n : Int) : n ∈ nums ↔ -4 ≤ n ∧ n ≤ 4 := by
  unfold nums
  simp only [List.mem_cons, List.not_mem_nil, or_false]
  omega
theorem Sta.eqv (x y : Sta) : PyData.eqv x.D y.D = decide (x = y) := by
  obtain ⟨a, b, c⟩ := x
  obtain ⟨d, e, f⟩ := y
  simp [Sta.D, Bool.decide_and]
instance : DecidableEq Way := fun x y =>
  if h : x.s = y.s ∧ x.f = y.f ∧ x.m = y.m ∧ x.c = y.c then isTrue (by
    obtain ⟨a, b, c, d⟩ := x
    obtain ⟨a', b', c', d'⟩ := y
    obtain ⟨h1, h2, h3, h4⟩ := h
    cases h1; cases h2; cases h3; cases h4; rfl)
  else isFalse (by
    rintro rfl
    exact h ⟨rfl, rfl, rfl, rfl⟩)
theorem Way.eqv (x y : Way) : PyData.eqv x.D y.D = decide (x = y) := by
  obtain ⟨a, b, c, d⟩ := x
  obtain ⟨e, f, g, h⟩ := y
  simp [Way.D, Bool.decide_and]
theorem way_shp {w : Way} (h : w.Va) : shp w.D = true := by
  have h1 := h.ok.m
  have h2 := h.ok.c
  simp [Way.D, h1, h2]
theorem way_lay {w : Way} (h : w.Va) (n : Nat) : lay (n + 1) w.D = true := by
  have h1 := h.ok.m
  have h2 := h.ok.c
  simp [Way.D, h1, h2]
theorem row_eqv (x y : List Int) : PyData.eqv (rowD x) (rowD y) = decide (x = y) := by
  unfold rowD
  rw [eqv_lst, eqvAll_ints]
theorem row_shp (x : List Int) : shp (rowD x) = true := by simp [rowD]
theorem sta_lay (n : Nat) (x : Sta) : lay (n + 1) x.D = true := by simp [Sta.D]
theorem sta_shp (x : Sta) : shp x.D = true := sta_lay 63 x
theorem sta_keyT (x : Sta) : keyT x.D = true := rfl
/-! ### counting -/
theorem nodup_lt : ∀ (M : Nat) (l : List Nat), l.Nodup → (∀ x ∈ l, x < M) → l.length ≤ M
  | 0, l, _, h => by
    cases l with
    | nil => simp
    | cons x l => exact absurd (h x List.mem_cons_self) (Nat.not_lt_zero _)
  | M + 1, l, hn, h => by
    have ih := nodup_lt M (l.filter fun x => decide (x ≠ M)) (hn.filter _) fun x hx => by
      obtain ⟨h1, h2⟩ := List.mem_filter.mp hx
      have := h x h1
      have : x ≠ M := of_decide_eq_true h2
      omega
    have hl : l.length ≤ (l.filter fun x => decide (x ≠ M)).length + 1 := by
      clear ih h
      induction l with
      | nil => simp
      | cons x l ihl =>
        rw [List.nodup_cons] at hn
        by_cases c : x = M
        · subst c
          have : l.filter (fun y => decide (y ≠ x)) = l := List.filter_eq_self.mpr fun y hy => decide_eq_true fun e => hn.1 (e ▸ hy)
          rw [List.filter_cons_of_neg (by simp), this]
          simp
        · rw [List.filter_cons_of_pos (by simpa using c)]
          have := ihl hn.2
          simp only [List.length_cons]
          omega
    omega
theorem nodup_code {α : Type} (code : α → Nat) (M : Nat) (l : List α) (hn : l.Nodup) (h : ∀ x ∈ l, code x < M) (inj : ∀ x ∈ l, ∀ y ∈ l, code x = code y → x = y) : l.length ≤ M := by
  have h1 : (l.map code).Nodup := by
    rw [List.nodup_iff_pairwise_ne, List.pairwise_map]
    refine List.Pairwise.imp_of_mem (fun {a b} ha hb hne e => hne (inj a ha b hb e)) (List.nodup_iff_pairwise_ne.mp hn)
  have := nodup_lt M (l.map code) h1 fun x hx => by
    obtain ⟨y, hy, rfl⟩ := List.mem_map.mp hx
    exact h y hy
  simpa using this
/-! ### states: how many -/
structure StB (w : Way) (x : Sta) : Prop where
  ok : StOk w x
  r1 : -6 < x.r
  r2 : x.r < 6
  b1 : -6 < x.b
  b2 : x.b < 6
  t : x.t = 0 ∨ x.t = 1
  tp : w.c ≠ "pairs" → x.t = 0
  bp : w.c = "pairs" → x.b = 0
theorem sta0_b (w : Way) : StB w sta0 := ⟨sta0_ok w, by decide, by decide, by decide, by decide, .inl rfl, fun _ => rfl, fun _ => rfl⟩
theorem after_b {w : Way} {x : Sta} (n : Int) (h : w.Va) (hx : StB w x) : StB w (after w x n) := by
  have hl : -6 < left w x n ∧ left w x n < 6 := by
    have b := bring_tight h (n + used w x n)
    have s2 := h.ok.s2
    unfold left told
    omega
  obtain ⟨h1, h2, h3, h4, h5, h6, h7, h8⟩ := hx
  have ho := after_ok n h1
  refine ⟨ho, ?_, ?_, ?_, ?_, ?_, fun e => ?_, ho.pairs⟩
  all_goals
    unfold after
    rcases h.c with c | c | c | c <;> simp [c] <;> (try (repeat' split)) <;> first | omega | simp_all | skip
def scode (w : Way) (x : Sta) : Nat := if w.c = "pairs" then (x.r + 5).toNat * 2 + x.t.toNat else (x.r + 5).toNat * 11 + (x.b + 5).toNat
theorem scode_lt {w : Way} {x : Sta} (h : StB w x) : scode w x < 121 := by
  obtain ⟨h1, h2, h3, h4, h5, h6, h7, h8⟩ := h
  unfold scode
  split <;> omega
theorem scode_inj {w : Way} {x y : Sta} (h : StB w x) (h' : StB w y) (e : scode w x = scode w y) : x = y := by
  obtain ⟨h1, h2, h3, h4, h5, h6, h7, h8⟩ := h
  obtain ⟨g1, g2, g3, g4, g5, g6, g7, g8⟩ := h'
  obtain ⟨r, b, t⟩ := x
  obtain ⟨r', b', t'⟩ := y
  unfold scode at e
  dsimp only at *
  by_cases c : w.c = "pairs"
  · rw [if_pos c, if_pos c] at e
    have := h8 c
    have := g8 c
    have : r = r' := by omega
    have : t = t' := by omega
    subst_vars
    rfl
  · rw [if_neg c, if_neg c] at e
    have := h7 c
    have := g7 c
    have : r = r' := by omega
    have : b = b' := by omega
    subst_vars
    rfl
end Lw
namespace Lw
open PySem PySem.Spec PyProof.Rows L2 Tr
theorem sta_eqv_self (x : Sta) : PyData.eqv x.D x.D = true := by rw [Sta.eqv]; simp
theorem law_states_last (w : Way) (T : List Int) : atI (sta0.D :: (stas w sta0 T).map Sta.D) (-1) = some (fin w sta0 T).D := staL_last w T
theorem fin_ok (w : Way) : ∀ (T : List Int) (x : Sta), StOk w x → StOk w (fin w x T)
  | [], _, h => h
  | n :: T, x, h => fin_ok w T _ (after_ok n h)
/-- the side's numbers -/
def pat (i : Nat) : Int := [1, 1, 1, -2].getD (i % 4) 0
theorem pat_ok (i : Nat) : -4 ≤ pat i ∧ pat i ≤ 4 := by
  have h : ∀ j, j < 4 → -4 ≤ ([1, 1, 1, -2] : List Int).getD j 0 ∧ ([1, 1, 1, -2] : List Int).getD j 0 ≤ 4 := by decide
  exact h _ (Nat.mod_lt _ (by decide))
theorem pat_at (i : Nat) : atI [PyData.int 1, PyData.int 1, PyData.int 1, PyData.int (-2)] ((i : Int) % 4) = some (.int (pat i)) := by
  have h : ∀ j : Nat, j < 4 → atI [PyData.int 1, PyData.int 1, PyData.int 1, PyData.int (-2)] (j : Int) = some (.int (([1, 1, 1, -2] : List Int).getD j 0)) := fun j hj => by
    match j, hj with
    | 0, _ => rfl
    | 1, _ => rfl
    | 2, _ => rfl
    | 3, _ => rfl
  have e : (i : Int) % 4 = ((i % 4 : Nat) : Int) := by omega
  rw [e]
  exact h _ (Nat.mod_lt _ (by decide))
theorem desk_draw {g g' rst : List Cell} (h : DrX rst g) (h' : DrX rst g') : g'.drop 3 = g.drop 3 := by
  obtain ⟨sc, ns, c, _, rfl⟩ := h.ex
  obtain ⟨sc', ns', c', _, rfl⟩ := h'.ex
  rfl
theorem turn_step (w : Way) (v : w.Va) (T S : List Int) (i : Nat) (hT : T.length < 30) (hTn : ∀ n ∈ T, -4 ≤ n ∧ n ≤ 4) (hS : S.length < 30) (lo : O) (hlo : lo = .lst (T.map .int) ∨ lo = .d (.list (T.map .int))) (told_ states number bad : Option O) (rst g : List Cell) (hg : DrX rst g) (d3 : DeskT g 3 w T) (d7 : DeskT g 7 wS S) :
    ∃ (T' : List Int) (lo' : O) (told' states' number' bad' : Option O) (rst' g' : List Cell), (∀ n ∈ T', -4 ≤ n ∧ n ≤ 4) ∧ T'.length ≤ T.length + 1 ∧ (lo' = .lst (T'.map .int) ∨ lo' = .d (.list (T'.map .int))) ∧ DrX rst' g' ∧ DeskT g' 3 w T' ∧ DeskT g' 7 wS (S ++ [pat i]) ∧
    w_law_0 s_Desk_put s__law_run s_Desk_state s_Desk_numbers s_Desk___len__ s_Desk_lines s__law_draw s__law_call s__law_write s__law_pick (LD w (some lo) (some (.d (.int i))) told_ states number bad g) = .ok .next (LD w (some lo') (some (.d (.int i))) told' states' number' bad' g') := by
  have q1 := p_put g 7 wS S (pat i) wS_va d7 (pat_ok i) (by omega)
  have i7 := d7.iput
  have o1 := oth_setDk g 7 ((S ++ [pat i]).map .int) ((tolds wS sta0 (S ++ [pat i])).map .int) ((staL wS (S ++ [pat i])).map Sta.D)
  have d7a : DeskT (setT g 7 wS (S ++ [pat i])) 7 wS (S ++ [pat i]) := DeskAt.upd d7 ((S ++ [pat i]).map .int) ((tolds wS sta0 (S ++ [pat i])).map .int) ((staL wS (S ++ [pat i])).map Sta.D)
  have d3a : DeskT (setT g 7 wS (S ++ [pat i])) 3 w T := o1.desk d3 (.inr (by decide))
  obtain ⟨rst1, hg1⟩ := o1.dr hg (by decide)
  have hg1 : DrX rst1 (setT g 7 wS (S ++ [pat i])) := hg1
  generalize setT g 7 wS (S ++ [pat i]) = g1 at q1 d7a d3a hg1
  have q2 := p_law_run w T g1 v (by omega)
  have q3 := p_state d3a
  have q4 := p_numbers d3a
  have q5 := p_len d3a
  have q6 := p_lines d3a
  have la := law_states_last w T
  obtain ⟨z, g2, q7, hg2, _, _⟩ := p_draw 4 g1 hg1 (by decide) (by decide)
  have d3b := d3a.same (by decide) (desk_draw hg1 hg2)
  have d7b := d7a.same (by decide) (desk_draw hg1 hg2)
  have is := sta_shp (fin w sta0 T)
  have ie := sta_eqv_self (fin w sta0 T)
  have lT : layL 63 (T.map PyData.int) = true := layL_ints 63 T
  have lO : layL 63 ((tolds w sta0 T).map PyData.int) = true := layL_ints 63 _
  have nT : (T.map PyData.int).length = T.length := List.length_map ..
  have eT := eqvAll_self lT
  have eO := eqvAll_self lO
  have lb : (T.length : Int) < 4611686018427387904 := by omega
  have pa := pat_at i
  have sI := d3a.istate
  have nI := d3a.inumbers
  have lI := d3a.ilines
  have eI := d3a.ilen
  have rw1 : rowD T = .list (T.map .int) := rfl
  rw [rw1] at q2
  have bads : ∀ (T' : List Int) (rst3 g3 : List Cell), DrX rst3 g3 → DeskT g3 3 w T' → DeskT g3 7 wS (S ++ [pat i]) → ∃ (d : PyData) (g4 : List Cell), DrX rst3 g4 ∧ DeskT g4 3 w T' ∧ DeskT g4 7 wS (S ++ [pat i]) ∧
      s__law_pick [.obj 2, .d (.list [PyData.none, .int 5, .int (-5), .bool true, .str "1", .list [.int 1], .tuple [.int 0], .bool false, .int 100])] g3 = .ok (.d d) g4 ∧ s__law_call [.obj 3, .d (.int 0), .d d] g4 = .ok (.d (.tuple [.str "error", .str "row"])) g4 := fun T' rst3 g3 h3 e3 e7 => by
    obtain ⟨d, g4, p1, p2, p3⟩ := p_pick [PyData.none, .int 5, .int (-5), .bool true, .str "1", .list [.int 1], .tuple [.int 0], .bool false, .int 100] g3 h3 (by simp) (by simp)
    have e3' := e3.same (by decide) (desk_draw h3 p2)
    have e7' := e7.same (by decide) (desk_draw h3 p2)
    exact ⟨d, g4, p2, e3', e7', p1, call_put_row e3' d (p_put_bad e3' d (bad_numbers d p3 g4))⟩
  by_cases c : z = 0
  · subst c
    rcases List.eq_nil_or_concat T with rfl | ⟨T0, n, rfl⟩
    · have k1 := call_undo_none d3b (p_undo_none d3b)
      obtain ⟨d, g4, h4, e3, e7, k2, k3⟩ := bads [] _ g2 hg2 d3b d7b
      refine ⟨[], .lst [], some (.d (.list [])), some (.d (.list [sta0.D])), number, some (.d d), _, g4, by simp, by simp, .inl rfl, h4, e3, e7, ?_⟩
      have cu : Tr.cutD [] none (some (-1)) = [] := rfl
      simp only [List.map_nil, tolds, stas, List.length_nil] at q2 q4 q5 q6 la lO
      rcases hlo with rfl | rfl <;> simp [w_law_0, xMeth, callO, i7, q1, q2, q3, q4, q5, q6, la, q7, is, ie, pa, sI, nI, lI, eI, xLenM, k1, k2, k3, lenO, cu]
    · rw [List.concat_eq_append] at *
      obtain ⟨g3, u1, u2, u3⟩ := p_undo n d3b
      have k1 := call_undo d3b n u1
      obtain ⟨rst3, hg3⟩ := u3.dr hg2 (by decide)
      obtain ⟨d, g4, h4, e3, e7, k2, k3⟩ := bads T0 _ g3 hg3 u2 (u3.desk d7b (.inl (by decide)))
      refine ⟨T0, .lst (T0.map .int), some (.d (.list ((tolds w sta0 (T0 ++ [n])).map .int))), some (.d (.list (sta0.D :: (stas w sta0 (T0 ++ [n])).map Sta.D))), number, some (.d d), _, g4, fun m hm => hTn m (List.mem_append_left _ hm), by simp; omega, .inl rfl, h4, e3, e7, ?_⟩
      have cu : Tr.cutD ((T0 ++ [n]).map PyData.int) none (some (-1)) = T0.map .int := by
        have hs : ∀ m : Nat, HT.sIx (m + 1) (m + 1) (some (-1)) = m := fun m => by
          unfold HT.sIx
          simp
          omega
        unfold Tr.cutD
        rw [HT.sIx_none, List.length_map, List.length_append, List.length_singleton, hs, List.drop_zero, List.map_append, Nat.sub_zero, List.take_left' (by simp)]
      have al : atI ((T0 ++ [n]).map PyData.int) (-1) = some (.int n) := by
        rw [List.map_append, List.map_singleton]
        exact atI_last _ _
      have lne : PyData.eqvAll ((T0 ++ [n]).map PyData.int) [] = false := by cases T0 <;> simp
      have rw2 : (T0 ++ [n]).length = (T0 ++ [n]).length := rfl
      generalize (T0 ++ [n]).length = LL at q5 nT lb
      generalize (tolds w sta0 (T0 ++ [n])).map PyData.int = OL at *
      generalize (stas w sta0 (T0 ++ [n])).map Sta.D = SL at *
      generalize (fin w sta0 (T0 ++ [n])).D = FD at *
      generalize (T0 ++ [n]).map PyData.int = TL at *
      generalize T0.map PyData.int = TL0 at *
      rcases hlo with rfl | rfl <;> simp [w_law_0, xMeth, callO, i7, q1, q2, q3, q4, q5, q6, la, q7, is, ie, lT, lO, nT, pa, sI, nI, lI, eI, xLenM, k1, k2, k3, lenO, cu, al, lne, eT, eO, lb]
  · obtain ⟨y, g3, r1, hg3, y1, y2⟩ := p_draw 9 g2 hg2 (by decide) (by decide)
    have d3c := d3b.same (by decide) (desk_draw hg2 hg3)
    have d7c := d7b.same (by decide) (desk_draw hg2 hg3)
    have hn : -4 ≤ y - 4 ∧ y - 4 ≤ 4 := by omega
    have u1 := p_put g3 3 w T (y - 4) v d3c hn (by omega)
    have k1 := call_put d3c (.int (y - 4)) _ u1
    have o3 := oth_setDk g3 3 ((T ++ [y - 4]).map .int) ((tolds w sta0 (T ++ [y - 4])).map .int) ((staL w (T ++ [y - 4])).map Sta.D)
    have d3d : DeskT (setT g3 3 w (T ++ [y - 4])) 3 w (T ++ [y - 4]) := DeskAt.upd d3c ((T ++ [y - 4]).map .int) ((tolds w sta0 (T ++ [y - 4])).map .int) ((staL w (T ++ [y - 4])).map Sta.D)
    have d7d : DeskT (setT g3 3 w (T ++ [y - 4])) 7 wS (S ++ [pat i]) := o3.desk d7c (.inl (by decide))
    obtain ⟨rst3, hg4⟩ := o3.dr hg3 (by decide)
    have hg4 : DrX rst3 (setT g3 3 w (T ++ [y - 4])) := hg4
    generalize setT g3 3 w (T ++ [y - 4]) = g4 at k1 d3d d7d hg4
    have k4 := p_law_write w (fin w sta0 T) (y - 4) g4 v (fin_ok w T sta0 (sta0_ok w))
    obtain ⟨d, g5, h5, e3, e7, k2, k3⟩ := bads (T ++ [y - 4]) _ g4 hg4 d3d d7d
    refine ⟨T ++ [y - 4], .lst ((T ++ [y - 4]).map .int), some (.d (.list ((tolds w sta0 T).map .int))), some (.d (.list (sta0.D :: (stas w sta0 T).map Sta.D))), some (.d (.int (y - 4))), some (.d d), _, g5, fun m hm => ?_, by simp, .inl rfl, h5, e3, e7, ?_⟩
    · rcases List.mem_append.mp hm with hm | hm
      · exact hTn m hm
      · rw [List.mem_singleton.mp hm]; exact hn
    · rw [List.map_append, List.map_singleton]
      have sl : T.length + 1 ≤ 16000000 := by omega
      generalize T.length = LL at q5 nT lb sl
      generalize told w (fin w sta0 T) (y - 4) = TN at *
      generalize (after w (fin w sta0 T) (y - 4)).D = AN at *
      generalize (tolds w sta0 T).map PyData.int = OL at *
      generalize (stas w sta0 T).map Sta.D = SL at *
      generalize (fin w sta0 T).D = FD at *
      generalize T.map PyData.int = TL at *
      rcases hlo with rfl | rfl <;> simp [w_law_0, xMeth, callO, i7, q1, q2, q3, q4, q5, q6, la, q7, c, is, ie, lT, lO, nT, pa, sI, nI, lI, eI, xLenM, r1, k1, k2, k3, k4, lenO, eT, eO, lb, sl]
end Lw
namespace Lw
open PySem PySem.Spec PyProof.Rows L2 Tr
theorem turn_loop (w : Way) (v : w.Va) : ∀ (ts : List Nat) (T S : List Int) (lo : O) (turn told_ states number bad : Option O) (rst g : List Cell), T.length + ts.length ≤ 29 → S.length + ts.length ≤ 29 → (∀ n ∈ T, -4 ≤ n ∧ n ≤ 4) → (lo = .lst (T.map .int) ∨ lo = .d (.list (T.map .int))) → DrX rst g → DeskT g 3 w T → DeskT g 7 wS S →
    ∃ (lo' : O) (turn' told' states' number' bad' : Option O) (rst' g' : List Cell), DrX rst' g' ∧ DeskT g' 7 wS (S ++ ts.map pat) ∧
    Tr.forM (gN 6) (w_law_0 s_Desk_put s__law_run s_Desk_state s_Desk_numbers s_Desk___len__ s_Desk_lines s__law_draw s__law_call s__law_write s__law_pick) (ts.map fun (k : Nat) => PyData.int k) (LD w (some lo) turn told_ states number bad g) = .ok .next (LD w (some lo') turn' told' states' number' bad' g')
  | [], T, S, lo, turn, told_, states, number, bad, rst, g, _, _, _, _, hg, _, d7 => ⟨lo, turn, told_, states, number, bad, rst, g, hg, by simpa using d7, rfl⟩
  | i :: ts, T, S, lo, turn, told_, states, number, bad, rst, g, h1, h2, hn, hlo, hg, d3, d7 => by
    simp only [List.length_cons] at h1 h2
    obtain ⟨T', lo', told', states', number', bad', rst', g', n', l', o', hg', e3, e7, q⟩ := turn_step w v T S i (by omega) hn (by omega) lo hlo told_ states number bad rst g hg d3 d7
    obtain ⟨lo2, turn2, told2, states2, number2, bad2, rst2, g2, hg2, f7, q2⟩ := turn_loop w v ts T' (S ++ [pat i]) lo' (some (.d (.int i))) told' states' number' bad' rst' g' (by omega) (by simp; omega) n' o' hg' e3 e7
    refine ⟨lo2, turn2, told2, states2, number2, bad2, rst2, g2, hg2, ?_, ?_⟩
    · rw [List.append_assoc, List.singleton_append] at f7
      rw [List.map_cons]
      exact f7
    · rw [List.map_cons, forM_cons (st1 := LD w (some lo) (some (.d (.int i))) told_ states number bad g) rfl q, q2]
def row16 : List Int := (List.range 16).map pat
theorem row16_ok : RowOk row16 := ⟨by decide, by decide +kernel⟩
theorem m3 (w : Way) (v : w.Va) (rst g : List Cell) (hg : DrX rst g) (d3 : DeskT g 3 w []) (d7 : DeskT g 7 wS []) : ∃ (lo : O) (turn told_ states number bad : Option O) (rst' g' : List Cell), DrX rst' g' ∧ DeskT g' 7 wS row16 ∧
    b_law_3 s_Desk_put s__law_run s_Desk_state s_Desk_numbers s_Desk___len__ s_Desk_lines s__law_draw s__law_call s__law_write s__law_pick (LD w (some (.lst [])) none none none none none g) = .ok .next (LD w (some lo) turn told_ states number bad g') := by
  obtain ⟨lo', turn', told', states', number', bad', rst', g', hg', f7, q⟩ := turn_loop w v (List.range 16) [] [] (.lst []) none none none none none rst g (by decide) (by decide) (fun _ z => nomatch z) (.inl rfl) hg d3 d7
  refine ⟨lo', turn', told', states', number', bad', rst', g', hg', f7, ?_⟩
  have it : iRange1 (aCons (xC (.int 16)) aNil) (LD w (some (.lst [])) none none none none none g) = .ok ((List.range 16).map fun (k : Nat) => PyData.int k) (LD w (some (.lst [])) none none none none none g) := by
    have e : rangeL 0 1 16 = (List.range 16).map fun (k : Nat) => PyData.int k := by
      have e := rangeL_one 16
      unfold natsD at e
      rw [← List.range_eq_range'] at e
      exact e
    rw [← e]
    rfl
  unfold b_law_3 c_law_0
  rw [sFor_eq it]
  exact q
theorem row16_D : row16.map PyData.int = [.int 1, .int 1, .int 1, .int (-2), .int 1, .int 1, .int 1, .int (-2), .int 1, .int 1, .int 1, .int (-2), .int 1, .int 1, .int 1, .int (-2)] := by
  have h : row16 = [1, 1, 1, -2, 1, 1, 1, -2, 1, 1, 1, -2, 1, 1, 1, -2] := by decide +kernel
  rw [h]
  rfl
theorem m4 (w : Way) (lo turn told_ states number bad : Option O) (g : List Cell) (d7 : DeskT g 7 wS row16) : b_law_4 s_Desk_numbers s_Desk_lines s_written (LD w lo turn told_ states number bad g) = .ok .next (LD w lo turn told_ states number bad g) := by
  have q1 := p_numbers d7
  have q2 := p_lines d7
  have i1 := d7.inumbers
  have i2 := d7.ilines
  have q3 := p_written wS row16 g wS_va row16_ok
  have lO : layL 63 ((tolds wS sta0 row16).map PyData.int) = true := layL_ints 63 _
  have eO := eqvAll_self lO
  generalize (tolds wS sta0 row16).map PyData.int = OL at *
  have dW : wS.D = .tuple [.int 4, .int 1, .str "nearup", .str "all"] := rfl
  unfold rowD at q3
  rw [row16_D] at q1 q3
  rw [dW] at q3
  simp [b_law_4, xMeth, callO, i1, i2, q1, q2, q3, lO, eO, List.replicate]
theorem m5_loop (w : Way) (lo turn told_ states number bad : Option O) : ∀ (m fuel : Nat) (S : List Int) (rst g : List Cell), S.length + m = 100 → m < fuel → DrX rst g → DeskT g 7 wS S → ∃ (rst' g' : List Cell), DrX rst' g' ∧ DeskT g' 7 wS (S ++ List.replicate m 1) ∧
    sWhile fuel (v_law_1 s_Desk___len__) (w_law_1 s_Desk_put) (LD w lo turn told_ states number bad g) = .ok .next (LD w lo turn told_ states number bad g')
  | 0, fuel + 1, S, rst, g, h1, _, hg, d7 => by
    refine ⟨rst, g, hg, by simpa using d7, sWhile_f ?_⟩
    have i := d7.ilen
    have q := p_len d7
    have e : S.length = 100 := by omega
    rw [e] at q
    simp [v_law_1, xLenM, i, q]
  | m + 1, fuel + 1, S, rst, g, h1, h2, hg, d7 => by
    have i := d7.ilen
    have i2 := d7.iput
    have q := p_len d7
    have u := p_put g 7 wS S 1 wS_va d7 (by decide) (by omega)
    have o1 := oth_setDk g 7 (List.map PyData.int (S ++ [1])) ((tolds wS sta0 (S ++ [1])).map .int) ((staL wS (S ++ [1])).map Sta.D)
    have d7a : DeskT (setT g 7 wS (S ++ [1])) 7 wS (S ++ [1]) := DeskAt.upd d7 (List.map PyData.int (S ++ [1])) ((tolds wS sta0 (S ++ [1])).map .int) ((staL wS (S ++ [1])).map Sta.D)
    obtain ⟨rst1, hg1⟩ := o1.dr hg (by decide)
    have hg1 : DrX rst1 (setT g 7 wS (S ++ [1])) := hg1
    generalize setT g 7 wS (S ++ [1]) = g1 at u d7a hg1
    obtain ⟨rst', g', a, b, c⟩ := m5_loop w lo turn told_ states number bad m fuel (S ++ [1]) rst1 g1 (by simp; omega) (by omega) hg1 d7a
    refine ⟨rst', g', a, ?_, ?_⟩
    · rw [List.append_assoc, List.singleton_append, ← List.replicate_succ] at b
      exact b
    · have b1 : (S.length : Int) < 100 := by omega
      have b2 : (S.length : Int) < 4611686018427387904 := by omega
      generalize S.length = SL at q b1 b2
      rw [sWhile_t (st1 := LD w lo turn told_ states number bad g) (st2 := LD w lo turn told_ states number bad g1) (by simp [v_law_1, xLenM, i, q, b1, b2]) (by simp [w_law_1, xMeth, callO, i2, u]), c]
theorem m6 (w : Way) (lo turn told_ states number bad : Option O) (S : List Int) (g : List Cell) (hl : S.length = 100) (d7 : DeskT g 7 wS S) : b_law_6 s_Desk___len__ s__law_call (LD w lo turn told_ states number bad g) = .ok .next (LD w lo turn told_ states number bad g) := by
  have i := d7.ilen
  have q := p_len d7
  rw [hl] at q
  have q1 := call_put_full d7 (.int 1) (p_put_full d7 1 (by decide) hl)
  have q2 := call_put_row d7 (.int 5) (p_put_bad d7 (.int 5) (bad_numbers _ (by simp) g))
  simp [b_law_6, xLenM, i, q, q1, q2]
theorem m7 (w : Way) (lo turn told_ states number bad : Option O) (S : List Int) (g : List Cell) (hl : S.length = 99) (d7 : DeskT g 7 wS (S ++ [1])) : ∃ st, b_law_7 s_Desk_put s_Desk_numbers s_Desk___len__ s_Desk_lines s_Desk_undo (LD w lo turn told_ states number bad g) = .ok (.ret (.d (.bool true))) st := by
  have i1 := d7.iundo
  obtain ⟨g1, u1, e1, _⟩ := p_undo 1 d7
  have i2 := e1.iput
  have u2 := p_put g1 7 wS S (-4) wS_va e1 (by decide) (by omega)
  have e2 : DeskT (setT g1 7 wS (S ++ [-4])) 7 wS (S ++ [-4]) := DeskAt.upd e1 (List.map PyData.int (S ++ [-4])) ((tolds wS sta0 (S ++ [-4])).map .int) ((staL wS (S ++ [-4])).map Sta.D)
  generalize setT g1 7 wS (S ++ [-4]) = g2 at u2 e2
  have i3 := e2.ilines
  have i4 := e2.ilen
  have i5 := e2.inumbers
  have q3 := p_lines e2
  have q4 := p_len e2
  have q5 := p_numbers e2
  rw [tolds_snoc, List.map_append, List.map_singleton] at q3
  have l3 := atI_last ((tolds wS sta0 S).map PyData.int) (.int (told wS (fin wS sta0 S) (-4)))
  have hl2 : (S ++ [-4]).length = 100 := by simp [hl]
  rw [hl2] at q4
  rw [List.map_append, List.map_singleton] at q5
  have l5 := atI_last (S.map PyData.int) (.int (-4))
  generalize told wS (fin wS sta0 S) (-4) = TN at *
  generalize (tolds wS sta0 S).map PyData.int ++ [.int TN] = OL at *
  generalize S.map PyData.int ++ [.int (-4)] = SL at *
  exact ⟨_, by simp [b_law_7, xMeth, callO, xLenM, i1, i2, i3, i4, i5, u1, u2, q3, q4, q5, l3, l5] <;> rfl⟩
theorem plain (ns : List Int) (hns : ns.length ≤ 63) : ∃ g', s_law [.obj 0] [.scr ns] = .ok (.d (.bool true)) g' := by
  obtain ⟨g0, e0, d0⟩ := p_start ns
  have q0 : b_law_0 s__law_start ⟨[some (.obj 0), none, none, none, none, none, none, none, none, none, none], [.scr ns]⟩ = .ok .next ⟨[some (.obj 0), some (.obj 2), none, none, none, none, none, none, none, none, none], g0⟩ := by simp [b_law_0, e0]
  obtain ⟨w, g1, e1, d1, v⟩ := p_way g0 d0
  have q1 : b_law_1 s__law_way ⟨[some (.obj 0), some (.obj 2), none, none, none, none, none, none, none, none, none], g0⟩ = .ok .next ⟨[some (.obj 0), some (.obj 2), some (.d w.D), none, none, none, none, none, none, none, none], g1⟩ := by simp [b_law_1, e1]
  obtain ⟨rst2, g2, d2, a3, a7, q2⟩ := m2 w v g1 d1
  obtain ⟨lo, turn, told_, states, number, bad, rst3, g3, d3, b7, q3⟩ := m3 w v rst2 g2 d2 a3 a7
  have q4 := m4 w (some lo) turn told_ states number bad g3 b7
  obtain ⟨rst5, g5, d5, c7, q5⟩ := m5_loop w (some lo) turn told_ states number bad 84 4000 row16 rst3 g3 (by decide +kernel) (by decide) d3 b7
  have l5 : (row16 ++ List.replicate 84 1).length = 100 := by decide +kernel
  have q6 := m6 w (some lo) turn told_ states number bad _ g5 l5 c7
  have e7 : row16 ++ List.replicate 84 1 = (row16 ++ List.replicate 83 1) ++ [1] := by decide +kernel
  rw [e7] at c7
  obtain ⟨st, q7⟩ := m7 w (some lo) turn told_ states number bad (row16 ++ List.replicate 83 1) g5 (by decide +kernel) c7
  have q5' : b_law_5 s_Desk_put s_Desk___len__ 4000 (LD w (some lo) turn told_ states number bad g3) = .ok .next (LD w (some lo) turn told_ states number bad g5) := q5
  have e := (sSeq_next q0).trans ((sSeq_next q1).trans ((sSeq_next q2).trans ((sSeq_next q3).trans ((sSeq_next q4).trans ((sSeq_next q5').trans ((sSeq_next q6).trans q7))))))
  have e2 : b_law s__law_start s__law_way s_Desk___init__ s_Desk_put s__law_run s_Desk_state s_Desk_numbers s_Desk___len__ s_Desk_lines s__law_draw s__law_call s__law_write s__law_pick s_written s_Desk_undo 4000 ⟨[some (.obj 0), none, none, none, none, none, none, none, none, none, none], [.scr ns]⟩ = .ok (.ret (.d (.bool true))) st := by
    unfold b_law
    exact e
  exact ⟨_, body_ret (n := 11) (os := [O.obj 0]) (g := [Cell.scr ns]) e2⟩
end Lw
namespace Lw
open PySem PySem.Spec PyProof.Rows L2 Tr
def q_is_int : He.DefD := ⟨("is_int", none), "is_int", "is_int", defArgs T_is_int, defBody T_is_int, defScope T_is_int, [], []⟩
def q_nearer : He.DefD := ⟨("nearer", none), "nearer", "nearer", defArgs T_nearer, defBody T_nearer, defScope T_nearer, [], []⟩
def q_brought_to : He.DefD := ⟨("brought_to", none), "brought_to", "brought_to", defArgs T_brought_to, defBody T_brought_to, defScope T_brought_to, [], []⟩
def q_bring : He.DefD := ⟨("bring", none), "bring", "bring", defArgs T_bring, defBody T_bring, defScope T_bring, [], []⟩
def q_write : He.DefD := ⟨("write", none), "write", "write", defArgs T_write, defBody T_write, defScope T_write, [], []⟩
def q_is_number : He.DefD := ⟨("is_number", none), "is_number", "is_number", defArgs T_is_number, defBody T_is_number, defScope T_is_number, [], []⟩
def q_check_number : He.DefD := ⟨("check_number", none), "check_number", "check_number", defArgs T_check_number, defBody T_check_number, defScope T_check_number, [], []⟩
def q_is_row : He.DefD := ⟨("is_row", none), "is_row", "is_row", defArgs T_is_row, defBody T_is_row, defScope T_is_row, [], []⟩
def q_check_row : He.DefD := ⟨("check_row", none), "check_row", "check_row", defArgs T_check_row, defBody T_check_row, defScope T_check_row, [], []⟩
def q_is_word : He.DefD := ⟨("is_word", none), "is_word", "is_word", defArgs T_is_word, defBody T_is_word, defScope T_is_word, [], []⟩
def q_is_way : He.DefD := ⟨("is_way", none), "is_way", "is_way", defArgs T_is_way, defBody T_is_way, defScope T_is_way, [], []⟩
def q_check_way : He.DefD := ⟨("check_way", none), "check_way", "check_way", defArgs T_check_way, defBody T_check_way, defScope T_check_way, [], []⟩
def q_run : He.DefD := ⟨("run", none), "run", "run", defArgs T_run, defBody T_run, defScope T_run, [], []⟩
def q_written : He.DefD := ⟨("written", none), "written", "written", defArgs T_written, defBody T_written, defScope T_written, [], []⟩
def q__law_start : He.DefD := ⟨("_law_start", none), "_law_start", "_law_start", defArgs T__law_start, defBody T__law_start, defScope T__law_start, [], []⟩
def q__law_draw : He.DefD := ⟨("_law_draw", none), "_law_draw", "_law_draw", defArgs T__law_draw, defBody T__law_draw, defScope T__law_draw, [], []⟩
def q__law_pick : He.DefD := ⟨("_law_pick", none), "_law_pick", "_law_pick", defArgs T__law_pick, defBody T__law_pick, defScope T__law_pick, [], []⟩
def q__law_error : He.DefD := ⟨("_law_error", none), "_law_error", "_law_error", defArgs T__law_error, defBody T__law_error, defScope T__law_error, [], []⟩
def q__law_steps : He.DefD := ⟨("_law_steps", none), "_law_steps", "_law_steps", defArgs T__law_steps, defBody T__law_steps, defScope T__law_steps, [], []⟩
def q__law_modes : He.DefD := ⟨("_law_modes", none), "_law_modes", "_law_modes", defArgs T__law_modes, defBody T__law_modes, defScope T__law_modes, [], []⟩
def q__law_way : He.DefD := ⟨("_law_way", none), "_law_way", "_law_way", defArgs T__law_way, defBody T__law_way, defScope T__law_way, [], []⟩
def q__law_at : He.DefD := ⟨("_law_at", none), "_law_at", "_law_at", defArgs T__law_at, defBody T__law_at, defScope T__law_at, [], []⟩
def q__law_bring : He.DefD := ⟨("_law_bring", none), "_law_bring", "_law_bring", defArgs T__law_bring, defBody T__law_bring, defScope T__law_bring, [], []⟩
def q__law_write : He.DefD := ⟨("_law_write", none), "_law_write", "_law_write", defArgs T__law_write, defBody T__law_write, defScope T__law_write, [], []⟩
def q__law_run : He.DefD := ⟨("_law_run", none), "_law_run", "_law_run", defArgs T__law_run, defBody T__law_run, defScope T__law_run, [], []⟩
def q__law_call : He.DefD := ⟨("_law_call", none), "_law_call", "_law_call", defArgs T__law_call, defBody T__law_call, defScope T__law_call, [], []⟩
def q_law : He.DefD := ⟨("law", none), "law", "law", defArgs T_law, defBody T_law, defScope T_law, [], []⟩
def q_Desk___init__ : He.DefD := ⟨("Desk", some "__init__"), "__init__", "Desk.__init__", defArgs T_Desk___init__, defBody T_Desk___init__, defScope T_Desk___init__, [], []⟩
def q_Desk___len__ : He.DefD := ⟨("Desk", some "__len__"), "__len__", "Desk.__len__", defArgs T_Desk___len__, defBody T_Desk___len__, defScope T_Desk___len__, [], []⟩
def q_Desk_put : He.DefD := ⟨("Desk", some "put"), "put", "Desk.put", defArgs T_Desk_put, defBody T_Desk_put, defScope T_Desk_put, [], []⟩
def q_Desk_state : He.DefD := ⟨("Desk", some "state"), "state", "Desk.state", defArgs T_Desk_state, defBody T_Desk_state, defScope T_Desk_state, [], []⟩
def q_Desk_numbers : He.DefD := ⟨("Desk", some "numbers"), "numbers", "Desk.numbers", defArgs T_Desk_numbers, defBody T_Desk_numbers, defScope T_Desk_numbers, [], []⟩
def q_Desk_lines : He.DefD := ⟨("Desk", some "lines"), "lines", "Desk.lines", defArgs T_Desk_lines, defBody T_Desk_lines, defScope T_Desk_lines, [], []⟩
def q_Desk_undo : He.DefD := ⟨("Desk", some "undo"), "undo", "Desk.undo", defArgs T_Desk_undo, defBody T_Desk_undo, defScope T_Desk_undo, [], []⟩
def fn : List He.DefD := [q_is_int, q_nearer, q_brought_to, q_bring, q_write, q_is_number, q_check_number, q_is_row, q_check_row, q_is_word, q_is_way, q_check_way, q_run, q_written, q__law_start, q__law_draw, q__law_pick, q__law_error, q__law_steps, q__law_modes, q__law_way, q__law_at, q__law_bring, q__law_write, q__law_run, q__law_call, q_law, q_Desk___init__, q_Desk___len__, q_Desk_put, q_Desk_state, q_Desk_numbers, q_Desk_lines, q_Desk_undo]
def fa0 : List He.Fa := [.glo "is_int", .glo "nearer", .glo "brought_to", .glo "bring", .glo "write", .glo "is_number", .glo "check_number", .glo "is_row", .glo "check_row", .glo "is_word", .glo "is_way", .glo "check_way", .glo "run", .glo "written", .glo "_law_start", .glo "_law_draw", .glo "_law_pick", .glo "_law_error", .glo "_law_steps", .glo "_law_modes", .glo "_law_way", .glo "_law_at", .glo "_law_bring", .glo "_law_write", .glo "_law_run"]
def fa1 : List He.Fa := [.glo "_law_call", .glo "law", .free "ValueError", .free "abs", .free "all", .free "bool", .free "int", .free "isinstance", .free "len", .free "list", .free "max", .free "min", .free "range", .free "str", .free "tuple", .glo "RestError", .exc "RestError", .glo "BadWay", .exc "BadWay", .glo "BadRow", .exc "BadRow", .glo "BadWritten", .exc "BadWritten", .glo "BadNumber", .exc "BadNumber"]
def fa2 : List He.Fa := [.glo "BadText", .exc "BadText", .glo "NotFound", .exc "NotFound", .glo "Desk", .cls "Desk", .mkr "Desk", .meth "Desk" "__init__", .meth "Desk" "__len__", .meth "Desk" "put", .meth "Desk" "state", .meth "Desk" "numbers", .meth "Desk" "lines", .meth "Desk" "undo", .noat "Desk" "states", .noat "Desk" "taken", .noat "Desk" "told", .noat "Desk" "way"]
def fa : List He.Fa := fa0 ++ fa1 ++ fa2
def cs : List (Str × PyData) := [("START", k_START), ("WIDEST", k_WIDEST), ("MOST_ROW", k_MOST_ROW), ("STEPS", k_STEPS), ("MODES", k_MODES), ("CARRIES", k_CARRIES), ("MOST_TAKEN", k_MOST_TAKEN)]
def ln0 : List Str := ["RestError", "BadWay", "BadRow", "BadWritten", "BadNumber", "BadText", "NotFound", "is_int", "START", "nearer", "brought_to", "bring", "write", "WIDEST", "MOST_ROW", "STEPS", "MODES", "CARRIES", "is_number", "check_number", "is_row", "check_row", "is_word", "is_way", "check_way"]
def ln1 : List Str := ["MOST_TAKEN", "Desk", "run", "written", "_law_start", "_law_draw", "_law_pick", "_law_error", "_law_steps", "_law_modes", "_law_way", "_law_at", "_law_bring", "_law_write", "_law_run", "_law_call"]
def cks : List (PySem.W.Frag → Bool) := [fun K => isB K (.ref (He.ga K "BadNumber")) sub_BadNumber, fun K => isB K (.ref (He.ga K "BadRow")) sub_BadRow, fun K => isB K (.ref (He.ga K "BadText")) sub_BadText, fun K => isB K (.ref (He.ga K "BadWay")) sub_BadWay, fun K => isB K (.ref (He.ga K "BadWritten")) sub_BadWritten, fun K => isB K (.ref (He.ga K "NotFound")) sub_NotFound, fun K => isB K (.ref (He.ga K "RestError")) sub_RestError, fun K => isB K (.type "ValueError") sub_ValueError, fun K => subB K "RestError" sub_RestError]
def loose : List Str := ln0 ++ ln1
abbrev R : PySem.W.OpenRow := PySem.W.OpenLaw.row PySem.Challenge.rw_carriedrests_k14_whole_desks
abbrev hk : PySem.W.Hook := hookC 4 cs cks fa fn
def ob (s : PySem.W.SharedT) : AlC := obsCG 4 cs cks fa fn (HandSHeadRun.getT s)
theorem ob_eq (s : PySem.W.SharedT) : ob s = hk.obs s.abs := obsCG_eq (HandSHeadRun.getT_eq s)
theorem run (w : World) : HandSHeadRun.RunEq R (PySem.W.view R.prog [47]) hk ob 3000 loose w := by
  intro os
  kernel_rfl
section
variable {w : World} {K : PySem.W.Frag} {h : Heap} {mg : Str → Option Value} {base : Heap}
theorem c_is_int (X : K.In h) (G : h.Ns mainGlobals mg) (c : SaysC cs cks fa fn K) : Cal R.prog w K mg base 1 "is_int" P_is_int s_is_int := by
  obtain ⟨fd, F⟩ := c.d.def_ 0 (d := q_is_int) rfl
  exact cal_fn F (He.glo_ok X G (c.d.fact 0 (f := .glo "is_int") rfl)) (a_is_int F) S_is_int (b_is_int 4000) fun cdv A outer s H E hr => d_is_int (He.free_ok X G (c.d.fact 32 (f := .free "isinstance") rfl)) (He.free_ok X G (c.d.fact 31 (f := .free "int") rfl)) (He.free_ok X G (c.d.fact 30 (f := .free "bool") rfl)) 4000 cdv A outer s H E hr
theorem c_nearer (X : K.In h) (G : h.Ns mainGlobals mg) (c : SaysC cs cks fa fn K) : Cal R.prog w K mg base 1 "nearer" P_nearer s_nearer := by
  obtain ⟨fd, F⟩ := c.d.def_ 1 (d := q_nearer) rfl
  exact cal_fn F (He.glo_ok X G (c.d.fact 1 (f := .glo "nearer") rfl)) (a_nearer F) S_nearer (b_nearer 4000) fun cdv A outer s H E hr => d_nearer  4000 cdv A outer s H E hr
theorem c_brought_to (X : K.In h) (G : h.Ns mainGlobals mg) (c : SaysC cs cks fa fn K) : Cal R.prog w K mg base 2 "brought_to" P_brought_to s_brought_to := by
  obtain ⟨fd, F⟩ := c.d.def_ 2 (d := q_brought_to) rfl
  exact cal_fn F (He.glo_ok X G (c.d.fact 2 (f := .glo "brought_to") rfl)) (a_brought_to F) S_brought_to (b_brought_to s_nearer 4000) fun cdv A outer s H E hr => d_brought_to ((c_nearer X G c).mono (by decide)) 4000 cdv A outer s H E hr
theorem c_bring (X : K.In h) (G : h.Ns mainGlobals mg) (c : SaysC cs cks fa fn K) : Cal R.prog w K mg base 3 "bring" P_bring s_bring := by
  obtain ⟨fd, F⟩ := c.d.def_ 3 (d := q_bring) rfl
  exact cal_fn F (He.glo_ok X G (c.d.fact 3 (f := .glo "bring") rfl)) (a_bring F) S_bring (b_bring s_brought_to 4000) fun cdv A outer s H E hr => d_bring ((c_brought_to X G c).mono (by decide)) 4000 cdv A outer s H E hr
theorem c_write (X : K.In h) (G : h.Ns mainGlobals mg) (c : SaysC cs cks fa fn K) : Cal R.prog w K mg base 4 "write" P_write s_write := by
  obtain ⟨fd, F⟩ := c.d.def_ 4 (d := q_write) rfl
  exact cal_fn F (He.glo_ok X G (c.d.fact 4 (f := .glo "write") rfl)) (a_write F) S_write (b_write s_bring 4000) fun cdv A outer s H E hr => d_write ((c_bring X G c).mono (by decide)) 4000 cdv A outer s H E hr
theorem c_is_number (X : K.In h) (G : h.Ns mainGlobals mg) (c : SaysC cs cks fa fn K) : Cal R.prog w K mg base 2 "is_number" P_is_number s_is_number := by
  obtain ⟨fd, F⟩ := c.d.def_ 5 (d := q_is_number) rfl
  exact cal_fn F (He.glo_ok X G (c.d.fact 5 (f := .glo "is_number") rfl)) (a_is_number F) S_is_number (b_is_number s_is_int 4000) fun cdv A outer s H E hr => d_is_number (c.gc X G 1) ((c_is_int X G c).mono (by decide)) 4000 cdv A outer s H E hr
theorem c_check_number (X : K.In h) (G : h.Ns mainGlobals mg) (c : SaysC cs cks fa fn K) : Cal R.prog w K mg base 3 "check_number" P_check_number s_check_number := by
  obtain ⟨fd, F⟩ := c.d.def_ 6 (d := q_check_number) rfl
  exact cal_fn F (He.glo_ok X G (c.d.fact 6 (f := .glo "check_number") rfl)) (a_check_number F) S_check_number (b_check_number s_is_number 4000) fun cdv A outer s H E hr => d_check_number (c.xc X G 45 44) ((c_is_number X G c).mono (by decide)) 4000 cdv A outer s H E hr
theorem c_is_row (X : K.In h) (G : h.Ns mainGlobals mg) (c : SaysC cs cks fa fn K) : Cal R.prog w K mg base 3 "is_row" P_is_row s_is_row := by
  obtain ⟨fd, F⟩ := c.d.def_ 7 (d := q_is_row) rfl
  exact cal_fn F (He.glo_ok X G (c.d.fact 7 (f := .glo "is_row") rfl)) (a_is_row F) S_is_row (b_is_row s_is_number 4000) fun cdv A outer s H E hr => d_is_row (He.free_ok X G (c.d.fact 32 (f := .free "isinstance") rfl)) (He.free_ok X G (c.d.fact 34 (f := .free "list") rfl)) (He.free_ok X G (c.d.fact 33 (f := .free "len") rfl)) (c.gc X G 2) (He.free_ok X G (c.d.fact 29 (f := .free "all") rfl)) ((c_is_number X G c).mono (by decide)) 4000 cdv A outer s H E hr
theorem c_check_row (X : K.In h) (G : h.Ns mainGlobals mg) (c : SaysC cs cks fa fn K) : Cal R.prog w K mg base 4 "check_row" P_check_row s_check_row := by
  obtain ⟨fd, F⟩ := c.d.def_ 8 (d := q_check_row) rfl
  exact cal_fn F (He.glo_ok X G (c.d.fact 8 (f := .glo "check_row") rfl)) (a_check_row F) S_check_row (b_check_row s_is_row 4000) fun cdv A outer s H E hr => d_check_row (c.xc X G 45 44) ((c_is_row X G c).mono (by decide)) 4000 cdv A outer s H E hr
theorem c_is_word (X : K.In h) (G : h.Ns mainGlobals mg) (c : SaysC cs cks fa fn K) : Cal R.prog w K mg base 1 "is_word" P_is_word s_is_word := by
  obtain ⟨fd, F⟩ := c.d.def_ 9 (d := q_is_word) rfl
  exact cal_fn F (He.glo_ok X G (c.d.fact 9 (f := .glo "is_word") rfl)) (a_is_word F) S_is_word (b_is_word 4000) fun cdv A outer s H E hr => d_is_word (He.free_ok X G (c.d.fact 32 (f := .free "isinstance") rfl)) (He.free_ok X G (c.d.fact 38 (f := .free "str") rfl)) 4000 cdv A outer s H E hr
theorem c_is_way (X : K.In h) (G : h.Ns mainGlobals mg) (c : SaysC cs cks fa fn K) : Cal R.prog w K mg base 2 "is_way" P_is_way s_is_way := by
  obtain ⟨fd, F⟩ := c.d.def_ 10 (d := q_is_way) rfl
  exact cal_fn F (He.glo_ok X G (c.d.fact 10 (f := .glo "is_way") rfl)) (a_is_way F) S_is_way (b_is_way s_is_int s_is_word 4000) fun cdv A outer s H E hr => d_is_way (He.free_ok X G (c.d.fact 32 (f := .free "isinstance") rfl)) (He.free_ok X G (c.d.fact 39 (f := .free "tuple") rfl)) (He.free_ok X G (c.d.fact 33 (f := .free "len") rfl)) (c.gc X G 3) (c.gc X G 4) (c.gc X G 5) ((c_is_int X G c).mono (by decide)) ((c_is_word X G c).mono (by decide)) 4000 cdv A outer s H E hr
theorem c_check_way (X : K.In h) (G : h.Ns mainGlobals mg) (c : SaysC cs cks fa fn K) : Cal R.prog w K mg base 3 "check_way" P_check_way s_check_way := by
  obtain ⟨fd, F⟩ := c.d.def_ 11 (d := q_check_way) rfl
  exact cal_fn F (He.glo_ok X G (c.d.fact 11 (f := .glo "check_way") rfl)) (a_check_way F) S_check_way (b_check_way s_is_way 4000) fun cdv A outer s H E hr => d_check_way (c.xc X G 43 42) ((c_is_way X G c).mono (by decide)) 4000 cdv A outer s H E hr
theorem c_run (X : K.In h) (G : h.Ns mainGlobals mg) (c : SaysC cs cks fa fn K) : Cal R.prog w K mg base 5 "run" P_run s_run := by
  obtain ⟨fd, F⟩ := c.d.def_ 12 (d := q_run) rfl
  exact cal_fn F (He.glo_ok X G (c.d.fact 12 (f := .glo "run") rfl)) (a_run F) S_run (b_run s_write 4000) fun cdv A outer s H E hr => d_run (c.gc X G 0) ((c_write X G c).mono (by decide)) 4000 cdv A outer s H E hr
theorem c_written (X : K.In h) (G : h.Ns mainGlobals mg) (c : SaysC cs cks fa fn K) : Cal R.prog w K mg base 6 "written" P_written s_written := by
  obtain ⟨fd, F⟩ := c.d.def_ 13 (d := q_written) rfl
  exact cal_fn F (He.glo_ok X G (c.d.fact 13 (f := .glo "written") rfl)) (a_written F) S_written (b_written s_check_way s_check_row s_run 4000) fun cdv A outer s H E hr => d_written ((c_check_way X G c).mono (by decide)) ((c_check_row X G c).mono (by decide)) ((c_run X G c).mono (by decide)) 4000 cdv A outer s H E hr
theorem c__law_start (X : K.In h) (G : h.Ns mainGlobals mg) (c : SaysC cs cks fa fn K) : Cal R.prog w K mg base 1 "_law_start" P__law_start s__law_start := by
  obtain ⟨fd, F⟩ := c.d.def_ 14 (d := q__law_start) rfl
  exact cal_fn F (He.glo_ok X G (c.d.fact 14 (f := .glo "_law_start") rfl)) (a__law_start F) S__law_start (b__law_start 4000) fun cdv A outer s H E hr => d__law_start (He.free_ok X G (c.d.fact 34 (f := .free "list") rfl)) 4000 cdv A outer s H E hr
theorem c__law_draw (X : K.In h) (G : h.Ns mainGlobals mg) (c : SaysC cs cks fa fn K) : Cal R.prog w K mg base 1 "_law_draw" P__law_draw s__law_draw := by
  obtain ⟨fd, F⟩ := c.d.def_ 15 (d := q__law_draw) rfl
  exact cal_fn F (He.glo_ok X G (c.d.fact 15 (f := .glo "_law_draw") rfl)) (a__law_draw F) S__law_draw (b__law_draw 4000) fun cdv A outer s H E hr => d__law_draw (He.free_ok X G (c.d.fact 33 (f := .free "len") rfl)) 4000 cdv A outer s H E hr
theorem c__law_pick (X : K.In h) (G : h.Ns mainGlobals mg) (c : SaysC cs cks fa fn K) : Cal R.prog w K mg base 2 "_law_pick" P__law_pick s__law_pick := by
  obtain ⟨fd, F⟩ := c.d.def_ 16 (d := q__law_pick) rfl
  exact cal_fn F (He.glo_ok X G (c.d.fact 16 (f := .glo "_law_pick") rfl)) (a__law_pick F) S__law_pick (b__law_pick s__law_draw 4000) fun cdv A outer s H E hr => d__law_pick (He.free_ok X G (c.d.fact 33 (f := .free "len") rfl)) ((c__law_draw X G c).mono (by decide)) 4000 cdv A outer s H E hr
theorem c__law_error (X : K.In h) (G : h.Ns mainGlobals mg) (c : SaysC cs cks fa fn K) : Cal R.prog w K mg base 1 "_law_error" P__law_error s__law_error := by
  obtain ⟨fd, F⟩ := c.d.def_ 17 (d := q__law_error) rfl
  exact cal_fn F (He.glo_ok X G (c.d.fact 17 (f := .glo "_law_error") rfl)) (a__law_error F) S__law_error (b__law_error 4000) fun cdv A outer s H E hr => d__law_error (He.free_ok X G (c.d.fact 32 (f := .free "isinstance") rfl)) (c.xc X G 43 42) (isB_ok (c.at 3)) (c.xc X G 45 44) (isB_ok (c.at 1)) (c.xc X G 47 46) (isB_ok (c.at 4)) (c.xc X G 49 48) (isB_ok (c.at 0)) (c.xc X G 51 50) (isB_ok (c.at 2)) (c.xc X G 53 52) (isB_ok (c.at 5)) (c.xc X G 41 40) (isB_ok (c.at 6)) (He.free_ok X G (c.d.fact 27 (f := .free "ValueError") rfl)) (isB_ok (c.at 7)) 4000 cdv A outer s H E hr
theorem c__law_steps (X : K.In h) (G : h.Ns mainGlobals mg) (c : SaysC cs cks fa fn K) : Cal R.prog w K mg base 1 "_law_steps" P__law_steps s__law_steps := by
  obtain ⟨fd, F⟩ := c.d.def_ 18 (d := q__law_steps) rfl
  exact cal_fn F (He.glo_ok X G (c.d.fact 18 (f := .glo "_law_steps") rfl)) (a__law_steps F) S__law_steps (b__law_steps 4000) fun cdv A outer s H E hr => d__law_steps  4000 cdv A outer s H E hr
theorem c__law_modes (X : K.In h) (G : h.Ns mainGlobals mg) (c : SaysC cs cks fa fn K) : Cal R.prog w K mg base 1 "_law_modes" P__law_modes s__law_modes := by
  obtain ⟨fd, F⟩ := c.d.def_ 19 (d := q__law_modes) rfl
  exact cal_fn F (He.glo_ok X G (c.d.fact 19 (f := .glo "_law_modes") rfl)) (a__law_modes F) S__law_modes (b__law_modes 4000) fun cdv A outer s H E hr => d__law_modes  4000 cdv A outer s H E hr
theorem c__law_way (X : K.In h) (G : h.Ns mainGlobals mg) (c : SaysC cs cks fa fn K) : Cal R.prog w K mg base 3 "_law_way" P__law_way s__law_way := by
  obtain ⟨fd, F⟩ := c.d.def_ 20 (d := q__law_way) rfl
  exact cal_fn F (He.glo_ok X G (c.d.fact 20 (f := .glo "_law_way") rfl)) (a__law_way F) S__law_way (b__law_way s__law_pick s__law_steps s__law_modes 4000) fun cdv A outer s H E hr => d__law_way ((c__law_pick X G c).mono (by decide)) ((c__law_steps X G c).mono (by decide)) ((c__law_modes X G c).mono (by decide)) 4000 cdv A outer s H E hr
theorem c__law_at (X : K.In h) (G : h.Ns mainGlobals mg) (c : SaysC cs cks fa fn K) : Cal R.prog w K mg base 1 "_law_at" P__law_at s__law_at := by
  obtain ⟨fd, F⟩ := c.d.def_ 21 (d := q__law_at) rfl
  exact cal_fn F (He.glo_ok X G (c.d.fact 21 (f := .glo "_law_at") rfl)) (a__law_at F) S__law_at (b__law_at 4000) fun cdv A outer s H E hr => d__law_at (He.free_ok X G (c.d.fact 37 (f := .free "range") rfl)) (He.free_ok X G (c.d.fact 33 (f := .free "len") rfl)) (He.free_ok X G (c.d.fact 36 (f := .free "min") rfl)) (He.free_ok X G (c.d.fact 35 (f := .free "max") rfl)) (He.free_ok X G (c.d.fact 28 (f := .free "abs") rfl)) 4000 cdv A outer s H E hr
theorem c__law_bring (X : K.In h) (G : h.Ns mainGlobals mg) (c : SaysC cs cks fa fn K) : Cal R.prog w K mg base 2 "_law_bring" P__law_bring s__law_bring := by
  obtain ⟨fd, F⟩ := c.d.def_ 22 (d := q__law_bring) rfl
  exact cal_fn F (He.glo_ok X G (c.d.fact 22 (f := .glo "_law_bring") rfl)) (a__law_bring F) S__law_bring (b__law_bring s__law_at 4000) fun cdv A outer s H E hr => d__law_bring ((c__law_at X G c).mono (by decide)) 4000 cdv A outer s H E hr
theorem c__law_write (X : K.In h) (G : h.Ns mainGlobals mg) (c : SaysC cs cks fa fn K) : Cal R.prog w K mg base 3 "_law_write" P__law_write s__law_write := by
  obtain ⟨fd, F⟩ := c.d.def_ 23 (d := q__law_write) rfl
  exact cal_fn F (He.glo_ok X G (c.d.fact 23 (f := .glo "_law_write") rfl)) (a__law_write F) S__law_write (b__law_write s__law_bring 4000) fun cdv A outer s H E hr => d__law_write ((c__law_bring X G c).mono (by decide)) 4000 cdv A outer s H E hr
theorem c__law_run (X : K.In h) (G : h.Ns mainGlobals mg) (c : SaysC cs cks fa fn K) : Cal R.prog w K mg base 4 "_law_run" P__law_run s__law_run := by
  obtain ⟨fd, F⟩ := c.d.def_ 24 (d := q__law_run) rfl
  exact cal_fn F (He.glo_ok X G (c.d.fact 24 (f := .glo "_law_run") rfl)) (a__law_run F) S__law_run (b__law_run s__law_write 4000) fun cdv A outer s H E hr => d__law_run ((c__law_write X G c).mono (by decide)) 4000 cdv A outer s H E hr
theorem c_Desk_put (X : K.In h) (G : h.Ns mainGlobals mg) (c : SaysC cs cks fa fn K) : CalM R.prog w K mg base 5 "Desk" "put" P_Desk_put s_Desk_put := by
  obtain ⟨fd, F⟩ := c.d.def_ 29 (d := q_Desk_put) rfl
  exact calM_fn F (He.cls_ok (c.d.fact 55 (f := .cls "Desk") rfl)) (He.meth_ok (c.d.fact 59 (f := .meth "Desk" "put") rfl)) (a_Desk_put F) S_Desk_put (b_Desk_put s_check_number s_write 4000) fun cdv A outer s H E hr => d_Desk_put (He.free_ok X G (c.d.fact 33 (f := .free "len") rfl)) (He.cls_ok (c.d.fact 55 (f := .cls "Desk") rfl)) (He.noat_ok (c.d.fact 65 (f := .noat "Desk" "taken") rfl)) (c.gc X G 6) (c.xc X G 49 48) (He.noat_ok (c.d.fact 67 (f := .noat "Desk" "way") rfl)) (He.noat_ok (c.d.fact 64 (f := .noat "Desk" "states") rfl)) (He.noat_ok (c.d.fact 66 (f := .noat "Desk" "told") rfl)) ((c_check_number X G c).mono (by decide)) ((c_write X G c).mono (by decide)) 4000 cdv A outer s H E hr
theorem c_Desk_undo (X : K.In h) (G : h.Ns mainGlobals mg) (c : SaysC cs cks fa fn K) : CalM R.prog w K mg base 1 "Desk" "undo" P_Desk_undo s_Desk_undo := by
  obtain ⟨fd, F⟩ := c.d.def_ 33 (d := q_Desk_undo) rfl
  exact calM_fn F (He.cls_ok (c.d.fact 55 (f := .cls "Desk") rfl)) (He.meth_ok (c.d.fact 63 (f := .meth "Desk" "undo") rfl)) (a_Desk_undo F) S_Desk_undo (b_Desk_undo 4000) fun cdv A outer s H E hr => d_Desk_undo (He.cls_ok (c.d.fact 55 (f := .cls "Desk") rfl)) (He.noat_ok (c.d.fact 65 (f := .noat "Desk" "taken") rfl)) (c.xc X G 53 52) (He.noat_ok (c.d.fact 64 (f := .noat "Desk" "states") rfl)) (He.noat_ok (c.d.fact 66 (f := .noat "Desk" "told") rfl)) 4000 cdv A outer s H E hr
theorem c__law_call (X : K.In h) (G : h.Ns mainGlobals mg) (c : SaysC cs cks fa fn K) : Cal R.prog w K mg base 6 "_law_call" P__law_call s__law_call := by
  obtain ⟨fd, F⟩ := c.d.def_ 25 (d := q__law_call) rfl
  exact cal_fn F (He.glo_ok X G (c.d.fact 25 (f := .glo "_law_call") rfl)) (a__law_call F) S__law_call (b__law_call s_Desk_put s_Desk_undo s__law_error 4000) fun cdv A outer s H E hr => d__law_call (c.xc X G 41 40) (subB_ok (c.at 8)) ((c_Desk_put X G c).mono (by decide)) ((c_Desk_undo X G c).mono (by decide)) ((c__law_error X G c).mono (by decide)) 4000 cdv A outer s H E hr
theorem c_Desk___init__ (X : K.In h) (G : h.Ns mainGlobals mg) (c : SaysC cs cks fa fn K) : CalM R.prog w K mg base 4 "Desk" "__init__" P_Desk___init__ s_Desk___init__ := by
  obtain ⟨fd, F⟩ := c.d.def_ 27 (d := q_Desk___init__) rfl
  exact calM_fn F (He.cls_ok (c.d.fact 55 (f := .cls "Desk") rfl)) (He.meth_ok (c.d.fact 57 (f := .meth "Desk" "__init__") rfl)) (a_Desk___init__ F) S_Desk___init__ (b_Desk___init__ s_check_way 4000) fun cdv A outer s H E hr => d_Desk___init__ (He.cls_ok (c.d.fact 55 (f := .cls "Desk") rfl)) (He.noat_ok (c.d.fact 67 (f := .noat "Desk" "way") rfl)) (He.noat_ok (c.d.fact 65 (f := .noat "Desk" "taken") rfl)) (He.noat_ok (c.d.fact 66 (f := .noat "Desk" "told") rfl)) (He.noat_ok (c.d.fact 64 (f := .noat "Desk" "states") rfl)) (c.gc X G 0) ((c_check_way X G c).mono (by decide)) 4000 cdv A outer s H E hr
theorem c_Desk (X : K.In h) (G : h.Ns mainGlobals mg) (c : SaysC cs cks fa fn K) : CalI R.prog w K mg base 5 "Desk" P_Desk___init__ s_Desk___init__ := by
  obtain ⟨fd, F, _, _, B⟩ := (c_Desk___init__ (w := w) (base := base) X G c).ex
  exact ⟨4, fd, Nat.le_refl _, F, He.mkr_ok (c.d.fact 56 (f := .mkr "Desk") rfl), He.glo_ok X G (c.d.fact 54 (f := .glo "Desk") rfl), B⟩
theorem c_Desk_state (X : K.In h) (G : h.Ns mainGlobals mg) (c : SaysC cs cks fa fn K) : CalM R.prog w K mg base 1 "Desk" "state" P_Desk_state s_Desk_state := by
  obtain ⟨fd, F⟩ := c.d.def_ 30 (d := q_Desk_state) rfl
  exact calM_fn F (He.cls_ok (c.d.fact 55 (f := .cls "Desk") rfl)) (He.meth_ok (c.d.fact 60 (f := .meth "Desk" "state") rfl)) (a_Desk_state F) S_Desk_state (b_Desk_state 4000) fun cdv A outer s H E hr => d_Desk_state (He.cls_ok (c.d.fact 55 (f := .cls "Desk") rfl)) (He.noat_ok (c.d.fact 64 (f := .noat "Desk" "states") rfl)) 4000 cdv A outer s H E hr
theorem c_Desk_numbers (X : K.In h) (G : h.Ns mainGlobals mg) (c : SaysC cs cks fa fn K) : CalM R.prog w K mg base 1 "Desk" "numbers" P_Desk_numbers s_Desk_numbers := by
  obtain ⟨fd, F⟩ := c.d.def_ 31 (d := q_Desk_numbers) rfl
  exact calM_fn F (He.cls_ok (c.d.fact 55 (f := .cls "Desk") rfl)) (He.meth_ok (c.d.fact 61 (f := .meth "Desk" "numbers") rfl)) (a_Desk_numbers F) S_Desk_numbers (b_Desk_numbers 4000) fun cdv A outer s H E hr => d_Desk_numbers (He.free_ok X G (c.d.fact 34 (f := .free "list") rfl)) (He.cls_ok (c.d.fact 55 (f := .cls "Desk") rfl)) (He.noat_ok (c.d.fact 65 (f := .noat "Desk" "taken") rfl)) 4000 cdv A outer s H E hr
theorem c_Desk___len__ (X : K.In h) (G : h.Ns mainGlobals mg) (c : SaysC cs cks fa fn K) : CalM R.prog w K mg base 1 "Desk" "__len__" P_Desk___len__ s_Desk___len__ := by
  obtain ⟨fd, F⟩ := c.d.def_ 28 (d := q_Desk___len__) rfl
  exact calM_fn F (He.cls_ok (c.d.fact 55 (f := .cls "Desk") rfl)) (He.meth_ok (c.d.fact 58 (f := .meth "Desk" "__len__") rfl)) (a_Desk___len__ F) S_Desk___len__ (b_Desk___len__ 4000) fun cdv A outer s H E hr => d_Desk___len__ (He.free_ok X G (c.d.fact 33 (f := .free "len") rfl)) (He.cls_ok (c.d.fact 55 (f := .cls "Desk") rfl)) (He.noat_ok (c.d.fact 65 (f := .noat "Desk" "taken") rfl)) 4000 cdv A outer s H E hr
theorem c_len_Desk (X : K.In h) (G : h.Ns mainGlobals mg) (c : SaysC cs cks fa fn K) : CalL R.prog w K mg base 2 "Desk" P_Desk___len__ s_Desk___len__ := ⟨1, Nat.le_refl _, c_Desk___len__ X G c⟩
theorem c_Desk_lines (X : K.In h) (G : h.Ns mainGlobals mg) (c : SaysC cs cks fa fn K) : CalM R.prog w K mg base 1 "Desk" "lines" P_Desk_lines s_Desk_lines := by
  obtain ⟨fd, F⟩ := c.d.def_ 32 (d := q_Desk_lines) rfl
  exact calM_fn F (He.cls_ok (c.d.fact 55 (f := .cls "Desk") rfl)) (He.meth_ok (c.d.fact 62 (f := .meth "Desk" "lines") rfl)) (a_Desk_lines F) S_Desk_lines (b_Desk_lines 4000) fun cdv A outer s H E hr => d_Desk_lines (He.free_ok X G (c.d.fact 34 (f := .free "list") rfl)) (He.cls_ok (c.d.fact 55 (f := .cls "Desk") rfl)) (He.noat_ok (c.d.fact 66 (f := .noat "Desk" "told") rfl)) 4000 cdv A outer s H E hr
theorem l_law (X : K.In h) (G : h.Ns mainGlobals mg) (c : SaysC cs cks fa fn K) {f : Addr} (hfa : mg "law" = some (.ref f)) : ∃ fd : FuncData, (∀ (s : Shared) (v : Value), BindsTo s fd ⟨[v], []⟩ [("_law_script", v)]) ∧ ∀ base : Heap, FnOk R.prog w K mg base (L2.CX R.prog w) 7 f fd P_law (spOf K s_law 1) := by
  obtain ⟨fd, F⟩ := c.d.def_ 26 (d := q_law) rfl
  have e := hfa.symm.trans (He.glo_ok X G (c.d.fact 26 (f := .glo "law") rfl))
  cases e
  have b := FunD.bindsA (ps := P_law) F fun _ _ _ _ _ _ us hl => match us, hl with | [_], _ => rfl
  exact ⟨fd, fun s v => b s [v] rfl, fun base => fn_def F S_law (b_law s__law_start s__law_way s_Desk___init__ s_Desk_put s__law_run s_Desk_state s_Desk_numbers s_Desk___len__ s_Desk_lines s__law_draw s__law_call s__law_write s__law_pick s_written s_Desk_undo 4000) fun cdv A outer s H E hr => d_law (He.free_ok X G (c.d.fact 37 (f := .free "range") rfl)) (He.free_ok X G (c.d.fact 33 (f := .free "len") rfl)) ((c__law_start X G c).mono (by decide)) ((c__law_way X G c).mono (by decide)) ((c_Desk X G c).mono (by decide)) ((c_Desk_put X G c).mono (by decide)) ((c__law_run X G c).mono (by decide)) ((c_Desk_state X G c).mono (by decide)) ((c_Desk_numbers X G c).mono (by decide)) ((c_len_Desk X G c).mono (by decide)) ((c_Desk_lines X G c).mono (by decide)) ((c__law_draw X G c).mono (by decide)) ((c__law_call X G c).mono (by decide)) ((c__law_write X G c).mono (by decide)) ((c__law_pick X G c).mono (by decide)) ((c_written X G c).mono (by decide)) ((c_Desk_undo X G c).mono (by decide)) 4000 cdv A outer s H E hr⟩
end
end Lw
open PySem PySem.W PySem.Calls PyProof.Rows
theorem PySem.Challenge.cw_carriedrests_k14_whole_desks_holds : PySem.Challenge.rw_carriedrests_k14_whole_desks.Holds := by
  w_on; o_law
  refine HandSHeadRun.head_any (r := Lw.R) (q := view Lw.R.prog [47]) (H := Lw.hk) (ob := Lw.ob) (M := 3000) (loose := Lw.loose) (d := HandSHeadRun.topDef Lw.R.prog 47) (kwd := []) Lw.ob_eq
    (by kernel_rfl) (fun s => by kernel_rfl) Lw.run (by kernel_rfl) (by kernel_rfl) (by kernel_rfl) (by rfl) (by first | assumption | decide +kernel) (by decide +kernel) ⟨rfl, rfl, rfl, rfl, rfl, by decide +kernel⟩ ?hw ?hc
  case hw => w_witness2
  case hc =>
    refine Tr.walk_tr (l := PySem.Challenge.rw_carriedrests_k14_whole_desks) (n := 63) (k := 7) (x := "_law_script") rfl (by decide) (by kernel_rfl) ⟨rfl, by decide, by decide⟩ ?F
    intro w mg fa h Y G hmg0
    obtain ⟨K, KX, c⟩ := Y
    have hmg : mg ("law" : PySem.Str) = some (.ref fa) := by
      have e : (HandSHeadRun.topDef Lw.R.prog 47).name = ("law" : PySem.Str) := by kernel_rfl
      rw [← e]
      exact hmg0
    obtain ⟨fd, hb, hF⟩ := Lw.l_law (w := w) KX G c hmg
    exact ⟨K, fd, Lw.s_law, KX, hb, Lw.plain, fun base _ _ => hF base⟩
