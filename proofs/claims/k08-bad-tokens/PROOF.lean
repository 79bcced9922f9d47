import PyProof.Rows.All
import Wide.All
import OpenK.AllK
import Wide.FinOn
import HandS.ForMost
import HandS.ForExc
import HandS.Evl
import HandS.Wide
import HandS.Deep
import HandS.IsInst
import HandS.TupAny
import HandS.Text
import HandS.Style
import HandS.CallSlots
import HandS.Property
import HandS.Defaults
import HandS.MakeKwOnly
import PyProof.DictMoreH
import HandS.TupLen
import HandS.Conv
import HandS.DictTup
import HandS.More
import HandS.IterVal
import KE.KOwnIter
import KE.KOpsOwn
import KE.KSortTupAny
import HandS.SortInts
import PyProof.StrOps2
import HandS.ExcInit
import HandS.ExcField
import HandS.TryOnly
import KE.KExcIs
import KE.RegKIsAll
import PySem.Challenge.RW_keptcoin_k08_bad_tokens
set_option Elab.async false
set_option linter.all false
set_option maxRecDepth 100000
set_option maxHeartbeats 4000000
/-! DLA: data without the heap: D (frozen), O (owned), what stands for what, the state's relation RE. -/
namespace DL
open PySem PySem.Spec PyProof.Rows L2 Evl

inductive D where
  | any | non | bl (b : Bool) | int (i : Int) | str (x : Str) | ty (n : String) | adr (a : Addr)
  | tup (xs : List D) | wtp (xs : List D) | lst (xs : List D) | scr (xs : List D) | dct (ks vs : List D) | ins (C : Addr) (ns : List Str) (vs : List D) | exc (c : Str) (a dd : Addr) (ns : List Str) (vs : List D)

inductive O where
  | im (d : D) | lst (xs : List O) | tup (xs : List O) | dct (ks : List D) (vs : List O) | ins (C : Addr) (ns : List Str) (vs : List O)

mutual
def O.flat : O → D
  | .im d => d
  | .lst xs => .lst (O.flats xs)
  | .tup xs => .tup (O.flats xs)
  | .dct ks vs => .dct ks (O.flats vs)
  | .ins C ns vs => .ins C ns (O.flats vs)
def O.flats : List O → List D
  | [] => []
  | o :: os => o.flat :: O.flats os
end
theorem flats_im : ∀ ds : List D, O.flats (ds.map O.im) = ds
  | [] => rfl
  | d :: ds => by
    show O.flat (O.im d) :: O.flats (ds.map O.im) = d :: ds
    rw [flats_im ds]
    rfl

def kD : Key → D
  | .inl i => .int i
  | .inr x => .str x
structure KB where
  K : PySem.W.Frag
  P : Program
  w : World
  mg : Str → Option Value
instance : Coe KB PySem.W.Frag := ⟨KB.K⟩
@[reducible] def _root_.L2.Cx.B (X : L2.Cx) : KB := ⟨X.K, X.prog, X.w, X.mg⟩
/-- a dict whose keys are tuples, the keys' own objects named: what is true of the dict's one object -/
def dXφ (K : KB) (a : Addr) (kvs : List (List Key × Addr × V)) (h : Heap) : Prop :=
  ∃ xs : List (List Key × Addr × Value), Paired (fun (p : List Key × Addr × V) (q : List Key × Addr × Value) => p.1 = q.1 ∧ p.2.1 = q.2.1 ∧ RelV p.2.2 q.2.2) kvs xs ∧
    ∃ o es ep, h.get? a = some o ∧ o.ExactDict ∧ o.data = .dict es ep ∧ es.toList = xs.map (entryOfKey (tupleKind (mixKind K.P K.w)))
def dX (K : KB) (a : Addr) (kvs : List (List Key × Addr × V)) : HO := .ext (dXφ K a kvs)
/-- the keys of such a dict -/
structure KeysOk (K : KB) (F : Hp) (a : Addr) (kvs : List (List Key × Addr × V)) : Prop where
  len : kvs.length ≤ sizeLine
  sys : (a == sysModules) = false
  nd : (kvs.map (·.1)).Nodup
  at_ : ∀ x ∈ kvs, SqT K F x.2.1 (x.1.map kV)
def DictAt (K : KB) (F : Hp) (a : Addr) (ho : HO) (ks : List D) (xs : List V) : Prop :=
  (∃ kvs : List (Key × V), ho = .dK kvs ∧ ((a == sysModules) = false ∧ (kvs.map (·.1)).Nodup) ∧ ks = kvs.map (fun p => kD p.1) ∧ xs = kvs.map (·.2)) ∨
  (∃ kvs : List (List Key × Addr × V), ho = dX K a kvs ∧ (kvs ≠ [] ∧ KeysOk K F a kvs) ∧ ks = kvs.map (fun p => D.tup (p.1.map kD)) ∧ xs = kvs.map (·.2.2))
theorem DictAt.mono {K : KB} {F F' : Hp} {a : Addr} {ho : HO} {ks : List D} {xs : List V} (e : Ex F F') (h : DictAt K F a ho ks xs) : DictAt K F' a ho ks xs := by
  rcases h with h | ⟨kvs, h1, h2, h3, h4⟩
  · exact .inl h
  · exact .inr ⟨kvs, h1, ⟨h2.1, h2.2.len, h2.2.sys, h2.2.nd, fun x hx => ex_t e (h2.2.at_ x hx)⟩, h3, h4⟩
/-- the values of such a dict are told by what stands there -/
def encV : V → Value
  | .non => .none
  | .bl b => .bool b
  | .int i => .int i 0
  | .str x => .str x 0
  | .byt b => .bytes b 0
  | .flt b => .float b 0
  | .ref a => .ref a
  | .ty n => .type n
theorem encV_rel : ∀ v : V, RelV v (encV v)
  | .non => rfl
  | .bl b => rfl
  | .int i => ⟨_, rfl⟩
  | .str x => ⟨_, rfl⟩
  | .byt b => ⟨_, rfl⟩
  | .flt b => ⟨_, rfl⟩
  | .ref a => rfl
  | .ty n => rfl
theorem dX_inj {K : KB} {a : Addr} {kvs kvs' : List (List Key × Addr × V)} (h : dX K a kvs = dX K a kvs') : kvs.map (·.2.2) = kvs'.map (·.2.2) := by
  have e : dXφ K a kvs = dXφ K a kvs' := HO.ext.inj h
  let xs : List (List Key × Addr × Value) := kvs.map fun p => (p.1, p.2.1, encV p.2.2)
  have hp : Paired (fun (p : List Key × Addr × V) (q : List Key × Addr × Value) => p.1 = q.1 ∧ p.2.1 = q.2.1 ∧ RelV p.2.2 q.2.2) kvs xs := by
    have key : ∀ l : List (List Key × Addr × V), Paired (fun (p : List Key × Addr × V) (q : List Key × Addr × Value) => p.1 = q.1 ∧ p.2.1 = q.2.1 ∧ RelV p.2.2 q.2.2) l (l.map fun p => (p.1, p.2.1, encV p.2.2)) := fun l => by
      induction l with
      | nil => exact .nil
      | cons p l ih => exact .cons ⟨rfl, rfl, encV_rel _⟩ ih
    exact key kvs
  let ob : Obj := { cls := .type "dict", data := .dict (xs.map (entryOfKey (tupleKind (mixKind K.P K.w)))).toArray 0 }
  let hp0 : Heap := ⟨Array.replicate (a + 1) ob, {}⟩
  have hg : hp0.get? a = some ob := by
    show (match (Array.replicate (a + 1) ob)[a]? with | some ⟨_, _, .freed, _⟩ => none | o => o) = some ob
    rw [show (Array.replicate (a + 1) ob)[a]? = some ob by simp]
  have h1 : dXφ K a kvs hp0 := ⟨xs, hp, ob, _, 0, hg, ⟨rfl, rfl, rfl⟩, rfl, by simp⟩
  rw [e] at h1
  obtain ⟨ys, hy, o, es, ep, g2, _, d2, e2⟩ := h1
  rw [hg] at g2
  cases g2
  cases d2
  have e3 : xs.map (entryOfKey (tupleKind (mixKind K.P K.w))) = ys.map (entryOfKey (tupleKind (mixKind K.P K.w))) := by simpa using e2
  have key : ∀ {l m : List (List Key × Addr × V)} {xs ys : List (List Key × Addr × Value)}, Paired (fun (p : List Key × Addr × V) (q : List Key × Addr × Value) => p.1 = q.1 ∧ p.2.1 = q.2.1 ∧ RelV p.2.2 q.2.2) l xs → Paired (fun (p : List Key × Addr × V) (q : List Key × Addr × Value) => p.1 = q.1 ∧ p.2.1 = q.2.1 ∧ RelV p.2.2 q.2.2) m ys →
      xs.map (entryOfKey (tupleKind (mixKind K.P K.w))) = ys.map (entryOfKey (tupleKind (mixKind K.P K.w))) → l.map (·.2.2) = m.map (·.2.2) := by
    intro l m xs ys h
    induction h generalizing m ys with
    | nil =>
      intro h2 e
      cases h2 with
      | nil => rfl
      | cons _ _ => simp at e
    | cons r t ih =>
      intro h2 e
      cases h2 with
      | nil => simp at e
      | cons r2 t2 =>
        rw [List.map_cons, List.map_cons] at e
        obtain ⟨e1, e2⟩ := List.cons.inj e
        rw [List.map_cons, List.map_cons, ih t2 e2]
        have e4 := congrArg DictEntry.val e1
        rw [RelV.inj r.2.2 (by
          have e5 : _ = _ := e4
          unfold entryOfKey at e5
          dsimp only at e5
          rw [e5]
          exact r2.2.2)]
  exact key hp hy e3

mutual
def Rep (K : KB) (F : Hp) : D → V → Prop
  | .any, _ => True
  | .non, v => v = .non
  | .bl b, v => v = .bl b
  | .int i, v => v = .int i
  | .str x, v => v = .str x
  | .ty n, v => v = .ty n
  | .adr a, v => v = .ref a
  | .tup ds, v => ∃ a xs, v = .ref a ∧ SqT K F a xs ∧ Reps K F ds xs
  | .wtp ds, v => ∃ a xs, v = .ref a ∧ SqT K F a xs ∧ Reps K F ds xs
  | .lst ds, v => ∃ a xs, v = .ref a ∧ F a = some (.lst xs) ∧ Reps K F ds xs
  | .scr ds, v => ∃ a xs, v = .ref a ∧ SqL K F a xs ∧ Reps K F ds xs
  | .dct ks ds, v => ∃ a ho xs, v = .ref a ∧ F a = some ho ∧ DictAt K F a ho ks xs ∧ Reps K F ds xs
  | .ins C ns ds, v => ∃ a dx xs, v = .ref a ∧ F a = some (.ins C dx (ns.zip xs)) ∧ ns.length = xs.length ∧ Reps K F ds xs
  | .exc _ a dd ns ds, v => ∃ xs, v = .ref a ∧ F dd = some (.xd (ns.zip xs)) ∧ ns.length = xs.length ∧ Reps K F ds xs
def Reps (K : KB) (F : Hp) : List D → List V → Prop
  | [], xs => xs = []
  | d :: ds, xs => ∃ x r, xs = x :: r ∧ Rep K F d x ∧ Reps K F ds r
end
mutual
theorem Rep.mono {K : KB} {F F' : Hp} (e : Ex F F') : ∀ (d : D) (v : V), Rep K F d v → Rep K F' d v
  | .any, v, h => h
  | .non, v, h => h
  | .bl b, v, h => h
  | .int i, v, h => h
  | .str x, v, h => h
  | .ty n, v, h => h
  | .adr a, v, h => h
  | .tup ds, v, h => by
    obtain ⟨a, xs, e1, h1, h2⟩ := h
    exact ⟨a, xs, e1, ex_t e h1, Reps.mono e ds xs h2⟩
  | .wtp ds, v, h => by
    obtain ⟨a, xs, e1, h1, h2⟩ := h
    exact ⟨a, xs, e1, ex_t e h1, Reps.mono e ds xs h2⟩
  | .lst ds, v, h => by
    obtain ⟨a, xs, e1, h1, h2⟩ := h
    exact ⟨a, xs, e1, e a _ h1, Reps.mono e ds xs h2⟩
  | .scr ds, v, h => by
    obtain ⟨a, xs, e1, h1, h2⟩ := h
    exact ⟨a, xs, e1, ex_l e h1, Reps.mono e ds xs h2⟩
  | .dct ks ds, v, h => by
    obtain ⟨a, ho, xs, e1, h1, h2, h3⟩ := h
    exact ⟨a, ho, xs, e1, e a ho h1, h2.mono e, Reps.mono e ds xs h3⟩
  | .ins C ns ds, v, h => by
    obtain ⟨a, dx, xs, e1, h1, h2, h3⟩ := h
    exact ⟨a, dx, xs, e1, e a _ h1, h2, Reps.mono e ds xs h3⟩
  | .exc c a dd ns ds, v, h => by
    obtain ⟨xs, e1, h1, h2, h3⟩ := h
    exact ⟨xs, e1, e dd _ h1, h2, Reps.mono e ds xs h3⟩
theorem Reps.mono {K : KB} {F F' : Hp} (e : Ex F F') : ∀ (ds : List D) (xs : List V), Reps K F ds xs → Reps K F' ds xs
  | [], xs, h => h
  | d :: ds, xs, h => by
    obtain ⟨x, r, e1, h1, h2⟩ := h
    exact ⟨x, r, e1, Rep.mono e d x h1, Reps.mono e ds r h2⟩
end
theorem Reps.length {K : KB} {F : Hp} : ∀ {ds : List D} {xs : List V}, Reps K F ds xs → ds.length = xs.length
  | [], xs, h => by rw [show xs = [] from h]; rfl
  | d :: ds, xs, h => by
    obtain ⟨x, r, e1, h1, h2⟩ := h
    rw [e1, List.length_cons, List.length_cons, Reps.length h2]
theorem Reps.get {K : KB} {F : Hp} : ∀ {ds : List D} {xs : List V} (i : Nat) {d : D}, Reps K F ds xs → ds[i]? = some d → ∃ x, xs[i]? = some x ∧ Rep K F d x
  | [], xs, i, d, h, e => by simp at e
  | d0 :: ds, xs, 0, d, h, e => by
    obtain ⟨x, r, e1, h1, h2⟩ := h
    subst e1
    simp at e
    subst e
    exact ⟨x, rfl, h1⟩
  | d0 :: ds, xs, i + 1, d, h, e => by
    obtain ⟨x, r, e1, h1, h2⟩ := h
    subst e1
    have e' : ds[i]? = some d := by simpa using e
    obtain ⟨y, ey, hy⟩ := Reps.get i h2 e'
    exact ⟨y, by simpa using ey, hy⟩
theorem Reps.getV {K : KB} {F : Hp} : ∀ {ds : List D} {xs : List V} (i : Nat) {x : V}, Reps K F ds xs → xs[i]? = some x → ∃ d, ds[i]? = some d ∧ Rep K F d x
  | [], xs, i, x, h, e => by
    rw [show xs = [] from h] at e
    simp at e
  | d0 :: ds, xs, 0, x, h, e => by
    obtain ⟨x, r, e1, h1, h2⟩ := h
    subst e1
    simp at e
    subst e
    exact ⟨d0, rfl, h1⟩
  | d0 :: ds, xs, i + 1, x, h, e => by
    obtain ⟨x0, r, e1, h1, h2⟩ := h
    subst e1
    have e' : r[i]? = some x := by simpa using e
    obtain ⟨y, ey, hy⟩ := Reps.getV i h2 e'
    exact ⟨y, by simpa using ey, hy⟩
theorem Reps.append {K : KB} {F : Hp} : ∀ {ds es : List D} {xs ys : List V}, Reps K F ds xs → Reps K F es ys → Reps K F (ds ++ es) (xs ++ ys)
  | [], es, xs, ys, h, h' => by
    rw [show xs = [] from h]
    exact h'
  | d :: ds, es, xs, ys, h, h' => by
    obtain ⟨x, r, e1, h1, h2⟩ := h
    subst e1
    exact ⟨x, r ++ ys, rfl, h1, Reps.append h2 h'⟩

mutual
def Own (K : KB) (F H : Hp) : O → V → List Addr → Prop
  | .im d, v, fs => fs = [] ∧ Rep K F d v
  | .lst os, v, fs => ∃ a xs r, v = .ref a ∧ fs = a :: r ∧ H a = some (.lst xs) ∧ Owns K F H os xs r
  | .tup os, v, fs => ∃ a xs r, v = .ref a ∧ fs = a :: r ∧ H a = some (.tup xs) ∧ Owns K F H os xs r
  | .dct ks os, v, fs => ∃ a ho xs r, v = .ref a ∧ fs = a :: r ∧ H a = some ho ∧ DictAt K F a ho ks xs ∧ Owns K F H os xs r
  | .ins C ns os, v, fs => ∃ a dx xs r, v = .ref a ∧ fs = a :: r ∧ H a = some (.ins C dx (ns.zip xs)) ∧ ns.length = xs.length ∧ Owns K F H os xs r
def Owns (K : KB) (F H : Hp) : List O → List V → List Addr → Prop
  | [], xs, fs => xs = [] ∧ fs = []
  | o :: os, xs, fs => ∃ x r f1 f2, xs = x :: r ∧ fs = f1 ++ f2 ∧ Own K F H o x f1 ∧ Owns K F H os r f2
end
mutual
theorem Own.mono {K : KB} {F F' H H' : Hp} (e : Ex F F') : ∀ (o : O) (v : V) (fs : List Addr), (∀ p ∈ fs, ∀ u, H p = some u → H' p = some u) → Own K F H o v fs → Own K F' H' o v fs
  | .im d, v, fs, k, h => ⟨h.1, Rep.mono e d v h.2⟩
  | .lst os, v, fs, k, h => by
    obtain ⟨a, xs, r, e1, e2, h1, h2⟩ := h
    subst e2
    exact ⟨a, xs, r, e1, rfl, k a List.mem_cons_self _ h1, Owns.mono e os xs r (fun p hp => k p (List.mem_cons_of_mem _ hp)) h2⟩
  | .tup os, v, fs, k, h => by
    obtain ⟨a, xs, r, e1, e2, h1, h2⟩ := h
    subst e2
    exact ⟨a, xs, r, e1, rfl, k a List.mem_cons_self _ h1, Owns.mono e os xs r (fun p hp => k p (List.mem_cons_of_mem _ hp)) h2⟩
  | .dct ks os, v, fs, k, h => by
    obtain ⟨a, ho, xs, r, e1, e2, h1, h0, h2⟩ := h
    subst e2
    exact ⟨a, ho, xs, r, e1, rfl, k a List.mem_cons_self _ h1, h0.mono e, Owns.mono e os xs r (fun p hp => k p (List.mem_cons_of_mem _ hp)) h2⟩
  | .ins C ns os, v, fs, k, h => by
    obtain ⟨a, dx, xs, r, e1, e2, h1, h0, h2⟩ := h
    subst e2
    exact ⟨a, dx, xs, r, e1, rfl, k a List.mem_cons_self _ h1, h0, Owns.mono e os xs r (fun p hp => k p (List.mem_cons_of_mem _ hp)) h2⟩
theorem Owns.mono {K : KB} {F F' H H' : Hp} (e : Ex F F') : ∀ (os : List O) (xs : List V) (fs : List Addr), (∀ p ∈ fs, ∀ u, H p = some u → H' p = some u) → Owns K F H os xs fs → Owns K F' H' os xs fs
  | [], xs, fs, k, h => h
  | o :: os, xs, fs, k, h => by
    obtain ⟨x, r, f1, f2, e1, e2, h1, h2⟩ := h
    subst e2
    exact ⟨x, r, f1, f2, e1, rfl, Own.mono e o x f1 (fun p hp => k p (List.mem_append_left _ hp)) h1, Owns.mono e os r f2 (fun p hp => k p (List.mem_append_right _ hp)) h2⟩
end
mutual
/-- what is owned, frozen in a heap that has it -/
theorem Own.rep {K : KB} {F H F' : Hp} (e : Ex F F') : ∀ (o : O) (v : V) (fs : List Addr), (∀ p ∈ fs, ∀ u, H p = some u → F' p = some u) → Own K F H o v fs → Rep K F' o.flat v
  | .im d, v, fs, k, h => Rep.mono e d v h.2
  | .lst os, v, fs, k, h => by
    obtain ⟨a, xs, r, e1, e2, h1, h2⟩ := h
    subst e2
    exact ⟨a, xs, e1, k a List.mem_cons_self _ h1, Owns.rep e os xs r (fun p hp => k p (List.mem_cons_of_mem _ hp)) h2⟩
  | .tup os, v, fs, k, h => by
    obtain ⟨a, xs, r, e1, e2, h1, h2⟩ := h
    subst e2
    exact ⟨a, xs, e1, SqT.of (k a List.mem_cons_self _ h1), Owns.rep e os xs r (fun p hp => k p (List.mem_cons_of_mem _ hp)) h2⟩
  | .dct ks os, v, fs, k, h => by
    obtain ⟨a, ho, xs, r, e1, e2, h1, h0, h2⟩ := h
    subst e2
    exact ⟨a, ho, xs, e1, k a List.mem_cons_self _ h1, h0.mono e, Owns.rep e os xs r (fun p hp => k p (List.mem_cons_of_mem _ hp)) h2⟩
  | .ins C ns os, v, fs, k, h => by
    obtain ⟨a, dx, xs, r, e1, e2, h1, h0, h2⟩ := h
    subst e2
    exact ⟨a, dx, xs, e1, k a List.mem_cons_self _ h1, h0, Owns.rep e os xs r (fun p hp => k p (List.mem_cons_of_mem _ hp)) h2⟩
theorem Owns.rep {K : KB} {F H F' : Hp} (e : Ex F F') : ∀ (os : List O) (xs : List V) (fs : List Addr), (∀ p ∈ fs, ∀ u, H p = some u → F' p = some u) → Owns K F H os xs fs → Reps K F' (O.flats os) xs
  | [], xs, fs, k, h => h.1
  | o :: os, xs, fs, k, h => by
    obtain ⟨x, r, f1, f2, e1, e2, h1, h2⟩ := h
    subst e2
    exact ⟨x, r, e1, Own.rep e o x f1 (fun p hp => k p (List.mem_append_left _ hp)) h1, Owns.rep e os r f2 (fun p hp => k p (List.mem_append_right _ hp)) h2⟩
end
mutual
/-- what is owned stands in the heap -/
theorem Own.there {K : KB} {F H : Hp} : ∀ (o : O) (v : V) (fs : List Addr), Own K F H o v fs → ∀ p ∈ fs, H p ≠ none
  | .im d, v, fs, h, p, hp => by
    rw [h.1] at hp
    cases hp
  | .lst os, v, fs, h, p, hp => by
    obtain ⟨a, xs, r, e1, e2, h1, h2⟩ := h
    subst e2
    rcases List.mem_cons.mp hp with e | hp
    · rw [e, h1]; simp
    · exact Owns.there os xs r h2 p hp
  | .tup os, v, fs, h, p, hp => by
    obtain ⟨a, xs, r, e1, e2, h1, h2⟩ := h
    subst e2
    rcases List.mem_cons.mp hp with e | hp
    · rw [e, h1]; simp
    · exact Owns.there os xs r h2 p hp
  | .dct ks os, v, fs, h, p, hp => by
    obtain ⟨a, ho, xs, r, e1, e2, h1, h0, h2⟩ := h
    subst e2
    rcases List.mem_cons.mp hp with e | hp
    · rw [e, h1]; simp
    · exact Owns.there os xs r h2 p hp
  | .ins C ns os, v, fs, h, p, hp => by
    obtain ⟨a, dx, xs, r, e1, e2, h1, h0, h2⟩ := h
    subst e2
    rcases List.mem_cons.mp hp with e | hp
    · rw [e, h1]; simp
    · exact Owns.there os xs r h2 p hp
theorem Owns.there {K : KB} {F H : Hp} : ∀ (os : List O) (xs : List V) (fs : List Addr), Owns K F H os xs fs → ∀ p ∈ fs, H p ≠ none
  | [], xs, fs, h, p, hp => by
    rw [h.2] at hp
    cases hp
  | o :: os, xs, fs, h, p, hp => by
    obtain ⟨x, r, f1, f2, e1, e2, h1, h2⟩ := h
    subst e2
    rcases List.mem_append.mp hp with hp | hp
    · exact Own.there o x f1 h1 p hp
    · exact Owns.there os r f2 h2 p hp
end
theorem owns_im {K : KB} {F H : Hp} : ∀ {ds : List D} {xs : List V}, Reps K F ds xs → Owns K F H (ds.map O.im) xs []
  | [], xs, h => ⟨h, rfl⟩
  | d :: ds, xs, h => by
    obtain ⟨x, r, e1, h1, h2⟩ := h
    exact ⟨x, r, [], [], e1, rfl, ⟨rfl, h1⟩, owns_im h2⟩
theorem of_owns_im {K : KB} {F H : Hp} : ∀ {ds : List D} {xs : List V} {fs : List Addr}, Owns K F H (ds.map O.im) xs fs → Reps K F ds xs ∧ fs = []
  | [], xs, fs, h => h
  | d :: ds, xs, fs, h => by
    obtain ⟨x, r, f1, f2, e1, e2, h1, h2⟩ := h
    obtain ⟨h3, h4⟩ := of_owns_im h2
    refine ⟨⟨x, r, e1, h1.2, h3⟩, ?_⟩
    rw [e2, h1.1, h4]
    rfl
theorem Owns.append {K : KB} {F H : Hp} : ∀ {os ps : List O} {xs ys : List V} {f g : List Addr}, Owns K F H os xs f → Owns K F H ps ys g → Owns K F H (os ++ ps) (xs ++ ys) (f ++ g)
  | [], ps, xs, ys, f, g, h, h' => by
    rw [h.1, h.2]
    exact h'
  | o :: os, ps, xs, ys, f, g, h, h' => by
    obtain ⟨x, r, f1, f2, e1, e2, h1, h2⟩ := h
    subst e1
    subst e2
    exact ⟨x, r ++ ys, f1, f2 ++ g, rfl, by rw [List.append_assoc], h1, Owns.append h2 h'⟩
theorem Owns.length {K : KB} {F H : Hp} : ∀ {os : List O} {xs : List V} {f : List Addr}, Owns K F H os xs f → os.length = xs.length
  | [], xs, f, h => by rw [h.1]; rfl
  | o :: os, xs, f, h => by
    obtain ⟨x, r, f1, f2, e1, e2, h1, h2⟩ := h
    rw [e1, List.length_cons, List.length_cons, Owns.length h2]

/-! ### the state -/
abbrev Slot := Option (Bool × O)
abbrev Env := List Slot
def Held (K : KB) (F H : Hp) : List (V × O) → List Addr → Prop
  | [], fs => fs = []
  | q :: r, fs => ∃ f1 f2, fs = f1 ++ f2 ∧ Own K F H q.2 q.1 f1 ∧ Held K F H r f2
def Slots : Env → L2.St → L2.St → List (V × O) → Prop
  | [], σ, _, hs => σ = [] ∧ hs = []
  | none :: e, σ, σ0, hs => ∃ x r, σ = x :: r ∧ Slots e r σ0.tail hs
  | some q :: e, σ, σ0, hs => ∃ v r hr, σ = some v :: r ∧ (q.1 = true → σ0.head? = some (some v)) ∧ hs = (v, q.2) :: hr ∧ Slots e r σ0.tail hr
structure Ctx where
  G : Hp
  F0 : Hp
  σ0 : L2.St
structure RE (K : KB) (c : Ctx) (F H : Hp) (σ : L2.St) (e : Env) (ts : List (V × O)) : Prop where
  g : Ex c.G H
  f0 : Ex c.F0 F
  fh : Ex F H
  nw : ∀ p, F p ≠ none → c.F0 p ≠ none ∨ c.G p = none
  hd : ∃ hs fs, Slots e σ c.σ0 hs ∧ Held K F H (ts ++ hs) fs ∧ fs.Nodup ∧ ∀ p ∈ fs, F p = none ∧ c.G p = none

section
variable {K : KB} {c : Ctx} {F F' H H' : Hp} {σ : L2.St} {e : Env} {ts : List (V × O)}
theorem Held.mono (ef : Ex F F') : ∀ {hs : List (V × O)} {fs : List Addr}, (∀ p ∈ fs, ∀ u, H p = some u → H' p = some u) → Held K F H hs fs → Held K F' H' hs fs
  | [], fs, k, h => h
  | q :: r, fs, k, h => by
    obtain ⟨f1, f2, e1, h1, h2⟩ := h
    subst e1
    exact ⟨f1, f2, rfl, Own.mono ef _ _ f1 (fun p hp => k p (List.mem_append_left _ hp)) h1, Held.mono ef (fun p hp => k p (List.mem_append_right _ hp)) h2⟩
theorem Held.there : ∀ {hs : List (V × O)} {fs : List Addr}, Held K F H hs fs → ∀ p ∈ fs, H p ≠ none
  | [], fs, h, p, hp => by
    rw [show fs = [] from h] at hp
    cases hp
  | q :: r, fs, h, p, hp => by
    obtain ⟨f1, f2, e1, h1, h2⟩ := h
    subst e1
    rcases List.mem_append.mp hp with hp | hp
    · exact Own.there _ _ f1 h1 p hp
    · exact Held.there h2 p hp
theorem Held.split : ∀ {A B : List (V × O)} {fs : List Addr}, Held K F H (A ++ B) fs → ∃ f1 f2, fs = f1 ++ f2 ∧ Held K F H A f1 ∧ Held K F H B f2
  | [], B, fs, h => ⟨[], fs, rfl, rfl, h⟩
  | q :: A, B, fs, h => by
    obtain ⟨f1, f2, e1, h1, h2⟩ := h
    obtain ⟨g1, g2, e2, h3, h4⟩ := Held.split h2
    exact ⟨f1 ++ g1, g2, by rw [e1, e2, List.append_assoc], ⟨f1, g1, rfl, h1, h3⟩, h4⟩
theorem Held.join : ∀ {A B : List (V × O)} {f1 f2 : List Addr}, Held K F H A f1 → Held K F H B f2 → Held K F H (A ++ B) (f1 ++ f2)
  | [], B, f1, f2, h, h' => by
    rw [show f1 = [] from h]
    exact h'
  | q :: A, B, f1, f2, h, h' => by
    obtain ⟨g1, g2, e1, h1, h2⟩ := h
    subst e1
    exact ⟨g1, g2 ++ f2, by rw [List.append_assoc], h1, Held.join h2 h'⟩
theorem Slots.len : ∀ {e : Env} {σ σ0 : L2.St} {hs : List (V × O)}, Slots e σ σ0 hs → σ.length = e.length
  | [], σ, σ0, hs, h => by rw [h.1]; rfl
  | none :: e, σ, σ0, hs, h => by
    obtain ⟨x, r, e1, h1⟩ := h
    rw [e1, List.length_cons, List.length_cons, Slots.len h1]
  | some q :: e, σ, σ0, hs, h => by
    obtain ⟨v, r, hr, e1, _, _, h1⟩ := h
    rw [e1, List.length_cons, List.length_cons, Slots.len h1]
/-- a slot that holds: its value; another holding there, with the same value -/
theorem Slots.at : ∀ {e : Env} {σ σ0 : L2.St} {hs : List (V × O)} (i : Nat) {b : Bool} {o : O}, Slots e σ σ0 hs → e[i]? = some (some (b, o)) →
    ∃ v A B, hs = A ++ (v, o) :: B ∧ σ[i]? = some (some v) ∧ (b = true → σ0[i]? = some (some v)) ∧ ∀ o', Slots (e.set i (some (b, o'))) σ σ0 (A ++ (v, o') :: B)
  | [], σ, σ0, hs, i, b, o, h, he => by simp at he
  | none :: e, σ, σ0, hs, 0, b, o, h, he => by simp at he
  | some q :: e, σ, σ0, hs, 0, b, o, h, he => by
    obtain ⟨v, r, hr, e1, hb, e2, h1⟩ := h
    have eq : q = (b, o) := by simpa using he
    subst eq
    subst e1
    refine ⟨v, [], hr, by rw [e2]; rfl, rfl, fun z => ?_, fun o' => ⟨v, r, hr, rfl, hb, rfl, h1⟩⟩
    have z' := hb z
    cases σ0 with
    | nil => simp at z'
    | cons y ys => simpa using z'
  | none :: e, σ, σ0, hs, i + 1, b, o, h, he => by
    obtain ⟨x, r, e1, h1⟩ := h
    subst e1
    obtain ⟨v, A, B, k1, k2, k3, k4⟩ := Slots.at i h1 (by simpa using he)
    refine ⟨v, A, B, k1, by simpa using k2, fun z => ?_, fun o' => ⟨x, r, rfl, k4 o'⟩⟩
    have z' := k3 z
    cases σ0 with
    | nil => simp at z'
    | cons y ys => simpa using z'
  | some q :: e, σ, σ0, hs, i + 1, b, o, h, he => by
    obtain ⟨v0, r, hr, e1, hb, e2, h1⟩ := h
    subst e1
    obtain ⟨v, A, B, k1, k2, k3, k4⟩ := Slots.at i h1 (by simpa using he)
    refine ⟨v, (v0, q.2) :: A, B, by rw [e2, k1]; rfl, by simpa using k2, fun z => ?_, fun o' => ⟨v0, r, _, rfl, hb, rfl, k4 o'⟩⟩
    have z' := k3 z
    cases σ0 with
    | nil => simp at z'
    | cons y ys => simpa using z'
/-- may be stored to: there, and not pinned -/
def Env.free (e : Env) (i : Nat) : Bool := match e[i]? with
  | some none => true
  | some (some (b, _)) => !b
  | none => false
theorem Slots.put : ∀ {e : Env} {σ σ0 : L2.St} {hs : List (V × O)} (i : Nat), Slots e σ σ0 hs → e.free i = true →
    ∃ A M B, hs = A ++ (M ++ B) ∧ (∀ v o, Slots (e.set i (some (false, o))) (σ.set i (some v)) σ0 (A ++ (v, o) :: B)) ∧ ∀ x, Slots (e.set i none) (σ.set i x) σ0 (A ++ B)
  | [], σ, σ0, hs, i, h, he => by simp [Env.free] at he
  | none :: e, σ, σ0, hs, 0, h, he => by
    obtain ⟨x, r, e1, h1⟩ := h
    subst e1
    exact ⟨[], [], hs, rfl, fun v o => ⟨v, r, hs, rfl, (fun z => by cases z), rfl, h1⟩, fun x => ⟨x, r, rfl, h1⟩⟩
  | some q :: e, σ, σ0, hs, 0, h, he => by
    obtain ⟨v0, r, hr, e1, hb, e2, h1⟩ := h
    subst e1
    exact ⟨[], [(v0, q.2)], hr, by rw [e2]; rfl, fun v o => ⟨v, r, hr, rfl, (fun z => by cases z), rfl, h1⟩, fun x => ⟨x, r, rfl, h1⟩⟩
  | none :: e, σ, σ0, hs, i + 1, h, he => by
    obtain ⟨x, r, e1, h1⟩ := h
    subst e1
    obtain ⟨A, M, B, k1, k2, k3⟩ := Slots.put i h1 (by simpa [Env.free] using he)
    exact ⟨A, M, B, k1, fun v o => ⟨x, _, rfl, k2 v o⟩, fun y => ⟨x, _, rfl, k3 y⟩⟩
  | some q :: e, σ, σ0, hs, i + 1, h, he => by
    obtain ⟨v0, r, hr, e1, hb, e2, h1⟩ := h
    subst e1
    obtain ⟨A, M, B, k1, k2, k3⟩ := Slots.put i h1 (by simpa [Env.free] using he)
    exact ⟨(v0, q.2) :: A, M, B, by rw [e2, k1]; rfl, fun v o => ⟨v0, _, _, rfl, hb, rfl, k2 v o⟩, fun y => ⟨v0, _, _, rfl, hb, rfl, k3 y⟩⟩

/-- new frozen things are new in the heap -/
def Fresh (F H F' : Hp) : Prop := ∀ p, F' p ≠ none → F p ≠ none ∨ H p = none
theorem Fresh.refl : Fresh F H F := fun _ h => .inl h
theorem none_of_ex {A B : Hp} (e : Ex A B) {p : Addr} (h : B p = none) : A p = none := fresh_back e h
theorem RE.grow (R : RE K c F H σ e ts) (ef : Ex F F') (eh : Ex H H') (fh : Ex F' H') (fr : Fresh F H F') : RE K c F' H' σ e ts := by
  obtain ⟨hs, fs, h1, h2, h3, h4⟩ := R.hd
  refine ⟨R.g.trans eh, R.f0.trans ef, fh, fun p hp => ?_, hs, fs, h1, Held.mono ef (fun p _ u z => eh p u z) h2, h3, fun p hp => ⟨?_, (h4 p hp).2⟩⟩
  · rcases fr p hp with z | z
    · exact R.nw p z
    · exact .inr (none_of_ex R.g z)
  · cases q : F' p with
    | none => rfl
    | some u =>
      rcases fr p (by rw [q]; simp) with z | z
      · exact absurd (h4 p hp).1 z
      · exact absurd z (Held.there h2 p hp)
/-- the heap alone grows -/
theorem RE.ex (R : RE K c F H σ e ts) (eh : Ex H H') : RE K c F H' σ e ts := R.grow (Ex.refl _) eh (R.fh.trans eh) Fresh.refl
/-- a new object, frozen at once -/
theorem RE.newF {p : Addr} {o : HO} (R : RE K c F H σ e ts) (hp : H p = none) : RE K c (upd F p o) (upd H p o) σ e ts := by
  refine R.grow (Ex.new (none_of_ex R.fh hp)) (Ex.new hp) (fun a u z => ?_) (fun a z => ?_)
  · by_cases q : a = p
    · subst q
      rw [upd_same] at z ⊢
      exact z
    · rw [upd_ne q] at z ⊢
      exact R.fh a u z
  · by_cases q : a = p
    · subst q
      exact .inr hp
    · rw [upd_ne q] at z
      exact .inl z
/-- a temporary is dropped -/
theorem RE.drop {t : V × O} (R : RE K c F H σ e (t :: ts)) : RE K c F H σ e ts := by
  obtain ⟨hs, fs, h1, h2, h3, h4⟩ := R.hd
  obtain ⟨f1, f2, e1, _, h5⟩ := h2
  subst e1
  exact ⟨R.g, R.f0, R.fh, R.nw, hs, f2, h1, h5, (List.nodup_append.mp h3).2.1, fun p hp => h4 p (List.mem_append_right _ hp)⟩
/-- a new object, owned -/
theorem RE.newO {p : Addr} {u : HO} {o : O} (R : RE K c F H σ e ts) (hp : H p = none) (ho : Own K F (upd H p u) o (.ref p) [p]) : RE K c F (upd H p u) σ e ((.ref p, o) :: ts) := by
  have R' := R.ex (Ex.new (o := u) hp)
  obtain ⟨hs, fs, h1, h2, h3, h4⟩ := R'.hd
  obtain ⟨hs0, fs0, h10, h20, h30, h40⟩ := R.hd
  refine ⟨R'.g, R'.f0, R'.fh, R'.nw, hs0, p :: fs0, h10, ⟨[p], fs0, rfl, ho, Held.mono (Ex.refl _) (fun q _ w z => Ex.new hp q w z) h20⟩, List.nodup_cons.mpr ⟨fun z => Held.there h20 p z hp, h30⟩, fun q hq => ?_⟩
  rcases List.mem_cons.mp hq with z | z
  · rw [z]
    exact ⟨none_of_ex R.fh hp, none_of_ex R.g hp⟩
  · exact h40 q z
/-- what a holding is, read -/
theorem RE.slot {i : Nat} {b : Bool} {o : O} (R : RE K c F H σ e ts) (h : e[i]? = some (some (b, o))) : ∃ v fs, σ[i]? = some (some v) ∧ Own K F H o v fs := by
  obtain ⟨hs, fs, h1, h2, h3, h4⟩ := R.hd
  obtain ⟨v, A, B, k1, k2, _, _⟩ := h1.at i h
  subst k1
  rw [← List.append_assoc] at h2
  obtain ⟨f1, f2, _, _, h5⟩ := h2.split
  obtain ⟨g1, g2, _, h6, _⟩ := h5
  exact ⟨v, g1, k2, h6⟩
theorem RE.slotIm {i : Nat} {b : Bool} {d : D} (R : RE K c F H σ e ts) (h : e[i]? = some (some (b, .im d))) : ∃ v, σ[i]? = some (some v) ∧ Rep K F d v := by
  obtain ⟨v, fs, h1, h2⟩ := R.slot h
  exact ⟨v, h1, h2.2⟩
theorem RE.temp {v : V} {o : O} (R : RE K c F H σ e ((v, o) :: ts)) : ∃ fs, Own K F H o v fs := by
  obtain ⟨hs, fs, h1, h2, h3, h4⟩ := R.hd
  obtain ⟨f1, f2, e1, h5, _⟩ := h2
  exact ⟨f1, h5⟩
/-- what is held may be frozen where all of it stands in the heap -/
theorem Own.view {o : O} {v : V} {fs : List Addr} (h : Own K F H o v fs) (e : Ex F H) : Rep K H o.flat v := Own.rep e o v fs (fun _ _ _ z => z) h
/-- store a frozen value -/
theorem RE.setIm {i : Nat} {v : V} {d : D} (R : RE K c F H σ e ts) (hi : e.free i = true) (h : Rep K F d v) : RE K c F H (σ.set i (some v)) (e.set i (some (false, .im d))) ts := by
  obtain ⟨hs, fs, h1, h2, h3, h4⟩ := R.hd
  obtain ⟨A, M, B, k1, k2, _⟩ := h1.put i hi
  subst k1
  rw [← List.append_assoc] at h2
  obtain ⟨f1, f2, e1, h5, h6⟩ := h2.split
  obtain ⟨g1, g2, e2, h7, h8⟩ := h6.split
  subst e2
  subst e1
  refine ⟨R.g, R.f0, R.fh, R.nw, _, f1 ++ g2, k2 v (.im d), ?_, ?_, fun p hp => h4 p ?_⟩
  · rw [← List.append_assoc]
    exact Held.join h5 ⟨[], g2, rfl, ⟨rfl, h⟩, h8⟩
  · refine List.Nodup.sublist ?_ h3
    exact List.Sublist.append_left (List.sublist_append_right g1 g2) f1
  · rcases List.mem_append.mp hp with z | z
    · exact List.mem_append_left _ z
    · exact List.mem_append_right _ (List.mem_append_right _ z)
/-- store a temporary -/
theorem RE.setO {i : Nat} {v : V} {o : O} (R : RE K c F H σ e ((v, o) :: ts)) (hi : e.free i = true) : RE K c F H (σ.set i (some v)) (e.set i (some (false, o))) ts := by
  obtain ⟨hs, fs, h1, h2, h3, h4⟩ := R.hd
  obtain ⟨A, M, B, k1, k2, _⟩ := h1.put i hi
  subst k1
  obtain ⟨f0, fr, e0, h0, hr⟩ := h2
  rw [show ts.append (A ++ (M ++ B)) = ts ++ (A ++ (M ++ B)) from rfl, ← List.append_assoc] at hr
  obtain ⟨f1, f2, e1, h5, h6⟩ := hr.split
  obtain ⟨g1, g2, e2, h7, h8⟩ := h6.split
  subst e2
  subst e1
  subst e0
  refine ⟨R.g, R.f0, R.fh, R.nw, _, f1 ++ (f0 ++ g2), k2 v o, ?_, ?_, fun p hp => h4 p ?_⟩
  · rw [← List.append_assoc]
    exact Held.join h5 ⟨f0, g2, rfl, h0, h8⟩
  · have hp : (f1 ++ (f0 ++ g2)).Perm (f0 ++ (f1 ++ g2)) := by
      rw [← List.append_assoc, ← List.append_assoc]
      exact List.Perm.append_right g2 List.perm_append_comm
    refine hp.nodup_iff.mpr (List.Nodup.sublist ?_ h3)
    exact List.Sublist.append_left (List.Sublist.append_left (List.sublist_append_right g1 g2) f1) f0
  · rcases List.mem_append.mp hp with z | z
    · exact List.mem_append_right _ (List.mem_append_left _ z)
    · rcases List.mem_append.mp z with z | z
      · exact List.mem_append_left _ z
      · exact List.mem_append_right _ (List.mem_append_right _ (List.mem_append_right _ z))
end
end DL

/-! DLB: freezing, changing; denotations; the judgements. -/
namespace DL
open PySem PySem.Spec PyProof.Rows L2 Evl
section
variable {K : KB} {c : Ctx} {F F' H H' : Hp} {σ : L2.St} {e : Env} {ts : List (V × O)}
/-- F and what of H stands at fs -/
def addF (F H : Hp) (fs : List Addr) : Hp := fun p => if p ∈ fs then H p else F p
theorem addF_in {fs : List Addr} {p : Addr} (h : p ∈ fs) : addF F H fs p = H p := if_pos h
theorem addF_out {fs : List Addr} {p : Addr} (h : ¬ p ∈ fs) : addF F H fs p = F p := if_neg h
theorem ex_addF {fs : List Addr} (h : ∀ p ∈ fs, F p = none) : Ex F (addF F H fs) := fun p u z => by
  by_cases q : p ∈ fs
  · rw [h p q] at z
    cases z
  · rw [addF_out q]
    exact z
theorem addF_ex {fs : List Addr} (h : Ex F H) : Ex (addF F H fs) H := fun p u z => by
  by_cases q : p ∈ fs
  · rw [addF_in q] at z
    exact z
  · rw [addF_out q] at z
    exact h p u z
theorem nodup_mid {α : Type} {a b c : List α} (h : (a ++ (b ++ c)).Nodup) : (∀ x ∈ b, x ∉ a ∧ x ∉ c) ∧ (a ++ c).Nodup := by
  obtain ⟨h1, h2, h3⟩ := List.nodup_append.mp h
  obtain ⟨h4, h5, h6⟩ := List.nodup_append.mp h2
  refine ⟨fun x hx => ⟨fun z => h3 x z x (List.mem_append_left _ hx) rfl, fun z => h6 x hx x z rfl⟩, List.nodup_append.mpr ⟨h1, h5, fun x hx y hy => h3 x hx y (List.mem_append_right _ hy)⟩⟩
/-- a holding in the middle is changed -/
theorem Held.change {A B : List (V × O)} {v : V} {o : O} {fs : List Addr} (h : Held K F H (A ++ (v, o) :: B) fs) (nd : fs.Nodup) (fr : ∀ p ∈ fs, F p = none ∧ c.G p = none) :
    ∃ f1 f0 f2, fs = f1 ++ (f0 ++ f2) ∧ Own K F H o v f0 ∧ ∀ (F' H' : Hp) (o' : O) (f0' : List Addr), Ex F F' → (∀ q u, q ∉ f0 → H q = some u → H' q = some u) → Own K F' H' o' v f0' → f0'.Nodup →
      (∀ q ∈ f0', (q ∈ f0 ∨ H q = none) ∧ F' q = none ∧ c.G q = none) → (∀ p, F' p ≠ none → F p ≠ none ∨ H p = none ∨ p ∈ f0) →
      Held K F' H' (A ++ (v, o') :: B) (f1 ++ (f0' ++ f2)) ∧ (f1 ++ (f0' ++ f2)).Nodup ∧ ∀ p ∈ f1 ++ (f0' ++ f2), F' p = none ∧ c.G p = none := by
  obtain ⟨f1, f3, e1, h1, h3⟩ := h.split
  obtain ⟨f0, f2, e2, h0, h2⟩ := h3
  subst e2
  subst e1
  refine ⟨f1, f0, f2, rfl, h0, fun F' H' o' f0' ef keep ho nd' hq fw => ?_⟩
  obtain ⟨dj, nd2⟩ := nodup_mid nd
  have out : ∀ p, p ∈ f1 ∨ p ∈ f2 → p ∉ f0 := fun p hp z => by
    rcases hp with hp | hp
    · exact (dj p z).1 hp
    · exact (dj p z).2 hp
  have th : ∀ p, p ∈ f1 ∨ p ∈ f2 → H p ≠ none := fun p hp => by
    rcases hp with hp | hp
    · exact Held.there h1 p hp
    · exact Held.there h2 p hp
  have ff : ∀ p, p ∈ f1 ∨ p ∈ f2 → F' p = none ∧ c.G p = none := fun p hp => by
    have hm : p ∈ f1 ++ (f0 ++ f2) := by
      rcases hp with hp | hp
      · exact List.mem_append_left _ hp
      · exact List.mem_append_right _ (List.mem_append_right _ hp)
    refine ⟨?_, (fr p hm).2⟩
    cases q : F' p with
    | none => rfl
    | some u =>
      rcases fw p (by rw [q]; simp) with z | z | z
      · exact absurd (fr p hm).1 z
      · exact absurd z (th p hp)
      · exact absurd z (out p hp)
  refine ⟨Held.join (Held.mono ef (fun p hp u z => keep p u (out p (.inl hp)) z) h1) ⟨f0', f2, rfl, ho, Held.mono ef (fun p hp u z => keep p u (out p (.inr hp)) z) h2⟩, ?_, fun p hp => ?_⟩
  · obtain ⟨n1, n2, n3⟩ := List.nodup_append.mp nd2
    refine List.nodup_append.mpr ⟨n1, List.nodup_append.mpr ⟨nd', n2, fun x hx y hy z => ?_⟩, fun x hx y hy z => ?_⟩
    · subst z
      rcases (hq x hx).1 with w | w
      · exact (dj x w).2 hy
      · exact th x (.inr hy) w
    · subst z
      rcases List.mem_append.mp hy with hy | hy
      · rcases (hq x hy).1 with w | w
        · exact (dj x w).1 hx
        · exact th x (.inl hx) w
      · exact n3 x hx x hy rfl
  · rcases List.mem_append.mp hp with hp | hp
    · exact ff p (.inl hp)
    · rcases List.mem_append.mp hp with hp | hp
      · exact (hq p hp).2
      · exact ff p (.inr hp)
/-- the facts behind a change of what stands at f0 -/
structure Chg (c : Ctx) (F F' H H' : Hp) (f0 : List Addr) : Prop where
  ef : Ex F F'
  fh : Ex F' H'
  keep : ∀ q u, q ∉ f0 → H q = some u → H' q = some u
  nw : ∀ p, F' p ≠ none → F p ≠ none ∨ H p = none ∨ p ∈ f0
theorem RE.chg (R : RE K c F H σ e ts) {f0 : List Addr} (fr : ∀ p ∈ f0, c.G p = none) (C : Chg c F F' H H' f0) : Ex c.G H' ∧ Ex c.F0 F' ∧ Ex F' H' ∧ ∀ p, F' p ≠ none → c.F0 p ≠ none ∨ c.G p = none := by
  refine ⟨fun p u z => C.keep p u (fun hp => ?_) (R.g p u z), R.f0.trans C.ef, C.fh, fun p hp => ?_⟩
  · rw [fr p hp] at z
    cases z
  · rcases C.nw p hp with z | z | z
    · exact R.nw p z
    · exact .inr (none_of_ex R.g z)
    · exact .inr (fr p z)
theorem RE.mutSlot {i : Nat} {b : Bool} {o : O} (R : RE K c F H σ e ts) (h : e[i]? = some (some (b, o))) :
    ∃ v f0, σ[i]? = some (some v) ∧ Own K F H o v f0 ∧ f0.Nodup ∧ (∀ p ∈ f0, F p = none ∧ c.G p = none) ∧ ∀ (F' H' : Hp) (o' : O) (f0' : List Addr), Chg c F F' H H' f0 → Own K F' H' o' v f0' → f0'.Nodup →
      (∀ q ∈ f0', (q ∈ f0 ∨ H q = none) ∧ F' q = none ∧ c.G q = none) → RE K c F' H' σ (e.set i (some (b, o'))) ts := by
  obtain ⟨hs, fs, h1, h2, h3, h4⟩ := R.hd
  obtain ⟨v, A, B, k1, k2, k3, k4⟩ := h1.at i h
  subst k1
  rw [← List.append_assoc] at h2
  obtain ⟨f1, f0, f2, e1, ho, hc⟩ := Held.change (c := c) h2 h3 h4
  have g0 : ∀ p ∈ f0, F p = none ∧ c.G p = none := fun p hp => h4 p (by rw [e1]; exact List.mem_append_right _ (List.mem_append_left _ hp))
  have n0 : f0.Nodup := by
    rw [e1] at h3
    exact (List.nodup_append.mp (List.nodup_append.mp h3).2.1).1
  refine ⟨v, f0, k2, ho, n0, g0, fun F' H' o' f0' C hw nd' hq => ?_⟩
  obtain ⟨r1, r2, r3, r4⟩ := R.chg (fun p hp => (g0 p hp).2) C
  obtain ⟨q1, q2, q3⟩ := hc F' H' o' f0' C.ef C.keep hw nd' hq C.nw
  rw [List.append_assoc] at q1
  exact ⟨r1, r2, r3, r4, _, _, k4 o', q1, q2, q3⟩
theorem RE.mutTemp {v : V} {o : O} (R : RE K c F H σ e ((v, o) :: ts)) :
    ∃ f0, Own K F H o v f0 ∧ f0.Nodup ∧ (∀ p ∈ f0, F p = none ∧ c.G p = none) ∧ ∀ (F' H' : Hp) (o' : O) (f0' : List Addr), Chg c F F' H H' f0 → Own K F' H' o' v f0' → f0'.Nodup →
      (∀ q ∈ f0', (q ∈ f0 ∨ H q = none) ∧ F' q = none ∧ c.G q = none) → RE K c F' H' σ e ((v, o') :: ts) := by
  obtain ⟨hs, fs, h1, h2, h3, h4⟩ := R.hd
  obtain ⟨f1, f0, f2, e1, ho, hc⟩ := Held.change (c := c) (A := []) (B := ts ++ hs) h2 h3 h4
  have g0 : ∀ p ∈ f0, F p = none ∧ c.G p = none := fun p hp => h4 p (by rw [e1]; exact List.mem_append_right _ (List.mem_append_left _ hp))
  have n0 : f0.Nodup := by
    rw [e1] at h3
    exact (List.nodup_append.mp (List.nodup_append.mp h3).2.1).1
  refine ⟨f0, ho, n0, g0, fun F' H' o' f0' C hw nd' hq => ?_⟩
  obtain ⟨r1, r2, r3, r4⟩ := R.chg (fun p hp => (g0 p hp).2) C
  obtain ⟨q1, q2, q3⟩ := hc F' H' o' f0' C.ef C.keep hw nd' hq C.nw
  exact ⟨r1, r2, r3, r4, _, _, h1, q1, q2, q3⟩
/-- a temporary, frozen -/
theorem RE.freezeT {v : V} {o : O} (R : RE K c F H σ e ((v, o) :: ts)) : ∃ F', Ex F F' ∧ RE K c F' H σ e ts ∧ Rep K F' o.flat v := by
  obtain ⟨f0, ho, n0, g0, hc⟩ := R.mutTemp
  have hr : Rep K (addF F H f0) o.flat v := Own.rep (ex_addF fun p hp => (g0 p hp).1) o v f0 (fun p hp u z => by rw [addF_in hp]; exact z) ho
  refine ⟨addF F H f0, ex_addF fun p hp => (g0 p hp).1, ?_, hr⟩
  exact (hc (addF F H f0) H (.im o.flat) [] ⟨ex_addF fun p hp => (g0 p hp).1, addF_ex R.fh, fun _ _ _ z => z, fun p hp => by
    by_cases q : p ∈ f0
    · exact .inr (.inr q)
    · rw [addF_out q] at hp
      exact .inl hp⟩ ⟨rfl, hr⟩ List.nodup_nil (fun q hq => nomatch hq)).drop
/-- a slot, frozen -/
theorem RE.freezeS {i : Nat} {b : Bool} {o : O} (R : RE K c F H σ e ts) (h : e[i]? = some (some (b, o))) : ∃ F' v, Ex F F' ∧ σ[i]? = some (some v) ∧ RE K c F' H σ (e.set i (some (b, .im o.flat))) ts ∧ Rep K F' o.flat v := by
  obtain ⟨v, f0, hv, ho, n0, g0, hc⟩ := R.mutSlot h
  have hr : Rep K (addF F H f0) o.flat v := Own.rep (ex_addF fun p hp => (g0 p hp).1) o v f0 (fun p hp u z => by rw [addF_in hp]; exact z) ho
  refine ⟨addF F H f0, v, ex_addF fun p hp => (g0 p hp).1, hv, ?_, hr⟩
  exact hc (addF F H f0) H (.im o.flat) [] ⟨ex_addF fun p hp => (g0 p hp).1, addF_ex R.fh, fun _ _ _ z => z, fun p hp => by
    by_cases q : p ∈ f0
    · exact .inr (.inr q)
    · rw [addF_out q] at hp
      exact .inl hp⟩ ⟨rfl, hr⟩ List.nodup_nil (fun q hq => nomatch hq)
end

/-! ### denotations -/
/-- an exception: its class, its fields -/
structure Xn where
  cls : Str
  fs : List (Str × D)
inductive Res (α : Type) where
  | ok (m : Bool) (e : Env) (a : α)
  | err (m : Bool) (e : Env) (x : Xn)
abbrev Den (α : Type) := Env → Option (Res α)
inductive Rv where
  | im (d : D) | new (o : O) | bor (i : Nat) (o : O)
inductive SRes where
  | nx (m : Bool) (e : Env) | rt (m : Bool) (e : Env) (r : Rv) | bk (m : Bool) (e : Env) | ct (m : Bool) (e : Env) | er (m : Bool) (e : Env) (x : Xn)
abbrev SDen := Env → Option SRes
def dpure {α : Type} (a : α) : Den α := fun e => some (.ok false e a)
def dlift {α : Type} (a : Option α) : Den α := fun e => match a with
  | some a => some (.ok false e a)
  | none => none
def Res.more {α β : Type} (m : Bool) : Option (Res β) → Option (Res β)
  | some (.ok m' e b) => some (.ok (m || m') e b)
  | some (.err m' e x) => some (.err (m || m') e x)
  | none => none
def dbind {α β : Type} (d : Den α) (f : α → Den β) : Den β := fun e => match d e with
  | some (.ok m e a) => Res.more (β := β) (α := α) m (f a e)
  | some (.err m e x) => some (.err m e x)
  | none => none
def XRel (K : KB) (F H : Hp) (x : Xn) (cls : Value) (d : Option Addr) : Prop :=
  (∃ C, K.mg x.cls = some (.ref C) ∧ cls = .ref C) ∧ match d with
    | none => x.fs = []
    | some a => ∃ vs : List V, F a = some (.xd ((x.fs.map (·.1)).zip vs)) ∧ Reps K F (x.fs.map (·.2)) vs

/-! ### judgements -/
abbrev Rel (α β : Type) := KB → Ctx → Hp → Hp → L2.St → Env → List (V × O) → α → β → Prop
def relI : Rel D V := fun K c F H σ e ts d v => RE K c F H σ e ts ∧ Rep K F d v
def relV : Rel D V := fun K c F H σ e ts d v => RE K c F H σ e ts ∧ Rep K H d v
def relR : Rel Rv V := fun K c F H σ e ts r v => match r with
  | .im d => RE K c F H σ e ts ∧ Rep K F d v
  | .new o => RE K c F H σ e ((v, o) :: ts)
  | .bor i o => RE K c F H σ e ts ∧ σ[i]? = some (some v) ∧ ∃ b, e[i]? = some (some (b, o))
def relB : Rel Bool Bool := fun K c F H σ e ts d v => RE K c F H σ e ts ∧ d = v
def relA : Rel (List D) (List V) := fun K c F H σ e ts d v => RE K c F H σ e ts ∧ Reps K F d v
/-- from here on: what is known of how it ends -/
def At {α β : Type} (rel : Rel α β) (K : KB) (W : WX) (den : Den α) (c : Ctx) (F : Hp) (σ : L2.St) (e : Env) (ts : List (V × O)) (H : Hp) (Q : β → Hp → Prop) : Prop :=
  ∃ r, den e = some r ∧ match r with
    | .ok m e' a => ∀ F' H' v, Ex F F' → (m = false → Ex H H') → rel K c F' H' σ e' ts a v → Q v H'
    | .err m e' x => ∀ F' H' cls d, Ex F F' → (m = false → Ex H H') → RE K c F' H' σ e' ts → XRel K F' H' x cls d → W cls d σ H'
def rd {α β : Type} (rel : Rel α β) (K : KB) (W : WX) (den : Den α) : L2.St → Hp → (β → Hp → Prop) → Prop :=
  fun σ H Q => ∃ c F e ts, RE K c F H σ e ts ∧ At rel K W den c F σ e ts H Q
theorem At.bind {α β γ δ : Type} {rel : Rel α β} {rel2 : Rel γ δ} {K : KB} {W : WX} {den : Den α} {f : α → Den γ} {c : Ctx} {F H : Hp} {σ : L2.St} {e : Env} {ts : List (V × O)} {Q : δ → Hp → Prop} {Q' : β → Hp → Prop}
    (h : At rel2 K W (dbind den f) c F σ e ts H Q) (k : ∀ F1 H1 e1 a v, Ex F F1 → rel K c F1 H1 σ e1 ts a v → At rel2 K W (f a) c F1 σ e1 ts H1 Q → Q' v H1) : At rel K W den c F σ e ts H Q' := by
  obtain ⟨r, hr, post⟩ := h
  unfold dbind at hr
  cases hd : den e with
  | none =>
    rw [hd] at hr
    cases hr
  | some r1 =>
    rw [hd] at hr
    cases r1 with
    | err m e1 x =>
      cases hr
      exact ⟨_, hd, post⟩
    | ok m e1 a =>
      refine ⟨_, hd, fun F1 H1 v ef eh hrel => k F1 H1 e1 a v ef hrel ?_⟩
      dsimp only at hr
      cases hf : f a e1 with
      | none =>
        rw [hf] at hr
        cases hr
      | some r2 =>
        rw [hf] at hr
        refine ⟨r2, hf, ?_⟩
        cases r2 with
        | err m2 e2 x =>
          cases hr
          exact fun F' H' cls d ef' eh' R hx => post F' H' cls d (ef.trans ef') (fun z => by
            have z1 : m = false := by cases m <;> first | rfl | cases z
            have z2 : m2 = false := by cases m2 <;> first | rfl | (cases m <;> cases z)
            exact (eh z1).trans (eh' z2)) R hx
        | ok m2 e2 b =>
          cases hr
          exact fun F' H' w ef' eh' hrel' => post F' H' w (ef.trans ef') (fun z => by
            have z1 : m = false := by cases m <;> first | rfl | cases z
            have z2 : m2 = false := by cases m2 <;> first | rfl | (cases m <;> cases z)
            exact (eh z1).trans (eh' z2)) hrel'
theorem At.lift {α β : Type} {rel : Rel α β} {K : KB} {W : WX} {a : Option α} {c : Ctx} {F H : Hp} {σ : L2.St} {e : Env} {ts : List (V × O)} {Q : β → Hp → Prop}
    (h : At rel K W (dlift a) c F σ e ts H Q) : ∃ x, a = some x ∧ ∀ F' H' v, Ex F F' → Ex H H' → rel K c F' H' σ e ts x v → Q v H' := by
  obtain ⟨r, hr, post⟩ := h
  cases a with
  | none => cases hr
  | some x =>
    cases hr
    exact ⟨x, rfl, fun F' H' v ef eh hrel => post F' H' v ef (fun _ => eh) hrel⟩
theorem At.pure {α β : Type} {rel : Rel α β} {K : KB} {W : WX} {a : α} {c : Ctx} {F H : Hp} {σ : L2.St} {e : Env} {ts : List (V × O)} {Q : β → Hp → Prop}
    (h : At rel K W (dpure a) c F σ e ts H Q) : ∀ F' H' v, Ex F F' → Ex H H' → rel K c F' H' σ e ts a v → Q v H' := by
  obtain ⟨r, hr, post⟩ := h
  cases hr
  exact fun F' H' v ef eh hrel => post F' H' v ef (fun _ => eh) hrel

structure DE (X : Cx) (W : WX) (ex : Expr) (den : Den Rv) : Prop where
  run : PE X ex (rd relR X.B W den)
structure DI (X : Cx) (W : WX) (ex : Expr) (den : Den D) : Prop where
  run : PE X ex (rd relI X.B W den)
structure DV (X : Cx) (W : WX) (ex : Expr) (den : Den D) : Prop where
  run : PE X ex (rd relV X.B W den)
structure DT (X : Cx) (W : WX) (ex : Expr) (den : Den Bool) : Prop where
  run : PT X ex (rd relB X.B W den)
structure DA (X : Cx) (W : WX) (es : List Expr) (den : Den (List D)) : Prop where
  run : PA X es (rd relA X.B W den)

section
variable {X : Cx} {W : WX} {ex a b : Expr} {pos : Pos}
theorem pe_weak {t t' : TE} (h : PE X ex t) (k : ∀ σ H Q, t' σ H Q → t σ H Q) : PE X ex t' := ⟨fun pins s σ H Q I q => h.run pins s σ H Q I (k σ H Q q)⟩
theorem pt_weak {t t' : TT} (h : PT X ex t) (k : ∀ σ H Q, t' σ H Q → t σ H Q) : PT X ex t' := ⟨fun pins s σ H Q I q => h.run pins s σ H Q I (k σ H Q q)⟩
theorem pa_weak {es : List Expr} {t t' : TA} (h : PA X es t) (k : ∀ σ H Q, t' σ H Q → t σ H Q) : PA X es t' := ⟨fun pos pins s σ H Q I q => h.run pos pins s σ H Q I (k σ H Q q)⟩
theorem ps_weak {st : Stmt} {t t' : TS} (h : PS X st t) (k : ∀ D σ H, t' D σ H → t D σ H) : PS X st t' := ⟨fun pins s σ H D I q => h.run pins s σ H D I (k D σ H q)⟩
theorem pss_weak {st : List Stmt} {t t' : TS} (h : PSs X st t) (k : ∀ D σ H, t' D σ H → t D σ H) : PSs X st t' := ⟨fun pins s σ H D I q => h.run pins s σ H D I (k D σ H q)⟩
/-- frozen -/
def frz (d : Den Rv) : Den D := dbind d fun r e => match r with
  | .im d => some (.ok false e d)
  | .new o => some (.ok false e o.flat)
  | .bor i o => match e[i]? with
    | some (some (b, _)) => some (.ok false (e.set i (some (b, .im o.flat))) o.flat)
    | _ => none
/-- seen, not kept -/
def vw (d : Den Rv) : Den D := dbind d fun r => match r with
  | .im d => dpure d
  | .new o => dpure o.flat
  | .bor _ o => dpure o.flat
theorem DE.i {den : Den Rv} (h : DE X W ex den) : DI X W ex (frz den) := ⟨pe_weak h.run fun σ H Q q => by
  obtain ⟨c, F, e, ts, R, q⟩ := q
  refine ⟨c, F, e, ts, R, q.bind fun F1 H1 e1 a v ef hrel q2 => ?_⟩
  cases a with
  | im d => exact At.pure (a := d) q2 F1 H1 v (Ex.refl _) (Ex.refl _) hrel
  | new o =>
    obtain ⟨F3, e3, R3, h3⟩ := RE.freezeT hrel
    exact At.pure (a := o.flat) q2 F3 H1 v e3 (Ex.refl _) ⟨R3, h3⟩
  | bor i o =>
    obtain ⟨R2, hv, b, hb⟩ := hrel
    obtain ⟨F3, v3, e3, hv3, R3, h3⟩ := R2.freezeS hb
    rw [hv] at hv3
    cases hv3
    obtain ⟨r, hr3, post⟩ := q2
    dsimp only at hr3
    rw [hb] at hr3
    cases hr3
    exact post F3 H1 v e3 (fun _ => Ex.refl _) ⟨R3, h3⟩⟩
theorem DE.v {den : Den Rv} (h : DE X W ex den) : DV X W ex (vw den) := ⟨pe_weak h.run fun σ H Q q => by
  obtain ⟨c, F, e, ts, R, q⟩ := q
  refine ⟨c, F, e, ts, R, q.bind fun F1 H1 e1 a v ef hrel q2 => ?_⟩
  cases a with
  | im d => exact At.pure (a := d) q2 F1 H1 v (Ex.refl _) (Ex.refl _) ⟨hrel.1, Rep.mono hrel.1.fh _ _ hrel.2⟩
  | new o =>
    obtain ⟨fs, ho⟩ := RE.temp hrel
    exact At.pure (a := o.flat) q2 F1 H1 v (Ex.refl _) (Ex.refl _) ⟨RE.drop hrel, ho.view (RE.fh hrel)⟩
  | bor i o =>
    obtain ⟨R2, hv, b, hb⟩ := hrel
    obtain ⟨w, fs, hw, ho⟩ := R2.slot hb
    rw [hv] at hw
    cases hw
    exact At.pure (a := o.flat) q2 F1 H1 v (Ex.refl _) (Ex.refl _) ⟨R2, ho.view R2.fh⟩⟩
def imR (d : Den D) : Den Rv := dbind d fun d => dpure (.im d)
theorem DI.e {den : Den D} (h : DI X W ex den) : DE X W ex (imR den) := ⟨pe_weak h.run fun σ H Q q => by
  obtain ⟨c, F, e, ts, R, q⟩ := q
  refine ⟨c, F, e, ts, R, q.bind fun F1 H1 e1 a v ef hrel q2 => ?_⟩
  exact At.pure (a := Rv.im a) q2 F1 H1 v (Ex.refl _) (Ex.refl _) hrel⟩
theorem DI.v {den : Den D} (h : DI X W ex den) : DV X W ex den := ⟨pe_weak h.run fun σ H Q q => by
  obtain ⟨c, F, e, ts, R, r, hr, post⟩ := q
  refine ⟨c, F, e, ts, R, r, hr, ?_⟩
  cases r with
  | ok m e1 a => exact fun F' H' v ef eh hrel => post F' H' v ef eh ⟨hrel.1, Rep.mono hrel.1.fh _ _ hrel.2⟩
  | err m e1 x => exact post⟩

/-! ### names, constants -/
def dvar (i : Nat) : Den Rv := fun e => match e[i]? with
  | some (some (_, .im d)) => some (.ok false e (.im d))
  | some (some (_, o)) => some (.ok false e (.bor i o))
  | _ => none
theorem de_var {i : Nat} (h : PE X ex (tVar i)) : DE X W ex (dvar i) := ⟨pe_weak h fun σ H Q q => by
  obtain ⟨c, F, e, ts, R, r, hr, post⟩ := q
  unfold dvar at hr
  cases he : e[i]? with
  | none =>
    rw [he] at hr
    cases hr
  | some s =>
    rw [he] at hr
    cases s with
    | none => cases hr
    | some q =>
      obtain ⟨b, o⟩ := q
      obtain ⟨v, fs, hv, ho⟩ := R.slot he
      refine ⟨v, hv, ?_⟩
      cases o with
      | im d =>
        cases hr
        exact post F H v (Ex.refl _) (fun _ => Ex.refl _) ⟨R, ho.2⟩
      | lst os =>
        cases hr
        exact post F H v (Ex.refl _) (fun _ => Ex.refl _) ⟨R, hv, b, he⟩
      | tup os =>
        cases hr
        exact post F H v (Ex.refl _) (fun _ => Ex.refl _) ⟨R, hv, b, he⟩
      | dct ks os =>
        cases hr
        exact post F H v (Ex.refl _) (fun _ => Ex.refl _) ⟨R, hv, b, he⟩
      | ins C ns os =>
        cases hr
        exact post F H v (Ex.refl _) (fun _ => Ex.refl _) ⟨R, hv, b, he⟩⟩
/-- a constant -/
theorem di_c {v : V} {d : D} (h : PE X ex (tC v)) (hr : ∀ F, Rep X.B F d v) : DI X W ex (dpure d) := ⟨pe_weak h fun σ H Q q => by
  obtain ⟨c, F, e, ts, R, q⟩ := q
  exact At.pure q F H v (Ex.refl _) (Ex.refl _) ⟨R, hr F⟩⟩
theorem di_int {i : Int} {j : Nat} : DI X W (.Constant (.int i) j pos) (dpure (.int i)) := di_c pe_int fun _ => rfl
theorem di_bl {b : Bool} {j : Nat} : DI X W (.Constant (.bool b) j pos) (dpure (.bl b)) := di_c pe_bl fun _ => rfl
theorem di_non {j : Nat} : DI X W (.Constant .none j pos) (dpure .non) := di_c pe_non fun _ => rfl
theorem di_str {x : Str} {j : Nat} : DI X W (.Constant (.str x) j pos) (dpure (.str x)) := di_c pe_str fun _ => rfl
end
end DL

/-! DLC: operators, comparisons, tests, calls of built-ins, tuples and lists written, subscripts. -/
namespace DL
open PySem PySem.Spec PyProof.Rows L2 Evl

/-! ### data that may be compared -/
mutual
def D.py : D → Option PyData
  | .non => some .none
  | .bl b => some (.bool b)
  | .int i => some (.int i)
  | .str x => some (.str x)
  | .tup ds => (D.pys ds).map PyData.tuple
  | .wtp ds => (D.pys ds).map PyData.tuple
  | .lst ds => (D.pys ds).map PyData.list
  | .scr ds => (D.pys ds).map PyData.list
  | .any => none
  | .ty _ => none
  | .adr _ => none
  | .exc _ _ _ _ _ => none
  | .dct _ _ => none
  | .ins _ _ _ => none
def D.pys : List D → Option (List PyData)
  | [] => some []
  | d :: ds => match D.py d, D.pys ds with
    | some p, some ps => some (p :: ps)
    | _, _ => none
end
mutual
theorem Rep.dp {K : KB} {H : Hp} : ∀ (d : D) (v : V) (p : PyData), Rep K H d v → d.py = some p → Dp K H v p
  | .non, v, p, h, e => by cases e; rw [show v = V.non from h]; exact .non
  | .bl b, v, p, h, e => by cases e; rw [show v = V.bl b from h]; exact .bl b
  | .int i, v, p, h, e => by cases e; rw [show v = V.int i from h]; exact .int i
  | .str x, v, p, h, e => by cases e; rw [show v = V.str x from h]; exact .str x
  | .tup ds, v, p, h, e => by
    obtain ⟨a, xs, rfl, h1, h2⟩ := h
    unfold D.py at e
    obtain ⟨q, e1, rfl⟩ := Option.map_eq_some_iff.mp e
    exact .tup (h1) (Reps.dp ds xs q h2 e1)
  | .wtp ds, v, p, h, e => by
    obtain ⟨a, xs, rfl, h1, h2⟩ := h
    unfold D.py at e
    obtain ⟨q, e1, rfl⟩ := Option.map_eq_some_iff.mp e
    exact .tup h1 (Reps.dp ds xs q h2 e1)
  | .lst ds, v, p, h, e => by
    obtain ⟨a, xs, rfl, h1, h2⟩ := h
    unfold D.py at e
    obtain ⟨q, e1, rfl⟩ := Option.map_eq_some_iff.mp e
    exact .lst (SqL.of h1) (Reps.dp ds xs q h2 e1)
  | .scr ds, v, p, h, e => by
    obtain ⟨a, xs, rfl, h1, h2⟩ := h
    unfold D.py at e
    obtain ⟨q, e1, rfl⟩ := Option.map_eq_some_iff.mp e
    exact .lst h1 (Reps.dp ds xs q h2 e1)
  | .any, v, p, h, e => by cases e
  | .ty _, v, p, h, e => by cases e
  | .adr _, v, p, h, e => by cases e
  | .exc _ _ _ _ _, v, p, h, e => by cases e
  | .dct _ _, v, p, h, e => by cases e
  | .ins _ _ _, v, p, h, e => by cases e
theorem Reps.dp {K : KB} {H : Hp} : ∀ (ds : List D) (xs : List V) (ps : List PyData), Reps K H ds xs → D.pys ds = some ps → DpAll K H xs ps
  | [], xs, ps, h, e => by
    rw [show xs = [] from h]
    cases e
    exact .nil
  | d :: ds, xs, ps, h, e => by
    obtain ⟨x, r, rfl, h1, h2⟩ := h
    unfold D.pys at e
    cases e1 : D.py d with
    | none => rw [e1] at e; cases e
    | some p =>
      cases e2 : D.pys ds with
      | none => rw [e1, e2] at e; cases e
      | some q =>
        rw [e1, e2] at e
        cases e
        exact .cons (Rep.dp d x p h1 e1) (Reps.dp ds r q h2 e2)
end
def eqD (a b : D) : Option Bool := match a.py, b.py with
  | some p, some q => if SeqAt.shaped p && SeqAt.shaped q then some (PyData.eqv p q) else none
  | _, _ => none

/-! ### operators over frozen data -/
def OpOk (K : KB) (r : R2) (g : D → D → Option D) : Prop := ∀ (F H : Hp) (x y : V) (dx dy d : D), Ex F H → Rep K F dx x → Rep K F dy y → g dx dy = some d →
  ∀ Q : VK, (∀ F' H' v, Ex F F' → Ex H H' → Ex F' H' → Fresh F H F' → Rep K F' d v → Q v H') → r x y H Q
/-- over data that is seen -/
def CmpOk (K : KB) (r : R2) (g : D → D → Option Bool) : Prop := ∀ (H : Hp) (x y : V) (dx dy : D) (b : Bool), Rep K H dx x → Rep K H dy y → g dx dy = some b → ∀ Q : VK, Q (.bl b) H → r x y H Q
def dbin (da db : Den D) (g : D → D → Option D) : Den D := dbind da fun x => dbind db fun y => dlift (g x y)
/-- what changes nothing -/
def dq {α : Type} (d : Den α) : Den α := fun e => match d e with
  | some (.ok false e' a) => some (.ok false e' a)
  | some (.err m e' x) => some (.err m e' x)
  | _ => none
def dcmp (da db : Den D) (g : D → D → Option Bool) : Den D := dbind da fun x => dbind (dq db) fun y => dlift ((g x y).map D.bl)
theorem At.quiet {α β : Type} {rel : Rel α β} {K : KB} {W : WX} {den : Den α} {c : Ctx} {F H : Hp} {σ : L2.St} {e : Env} {ts : List (V × O)} {Q : β → Hp → Prop}
    (h : At rel K W (dq den) c F σ e ts H Q) : At rel K W den c F σ e ts H (fun v H' => Ex H H' ∧ (Ex H H' → Q v H')) := by
  obtain ⟨r, hr, post⟩ := h
  unfold dq at hr
  cases hd : den e with
  | none => rw [hd] at hr; cases hr
  | some r1 =>
    rw [hd] at hr
    cases r1 with
    | err m e1 x =>
      cases hr
      exact ⟨_, hd, post⟩
    | ok m e1 a =>
      cases m with
      | true => cases hr
      | false =>
        cases hr
        exact ⟨_, hd, fun F' H' v ef eh hrel => ⟨eh rfl, fun _ => post F' H' v ef eh hrel⟩⟩
section
variable {X : Cx} {W : WX} {ex a b : Expr} {pos : Pos} {da db : Den D}
theorem di_opr {r : R2} {g : D → D → Option D} (h : ∀ {ta tb}, PE X a ta → PE X b tb → PE X ex (tOp r ta tb)) (hg : OpOk X.B r g) (ha : DI X W a da) (hb : DI X W b db) : DI X W ex (dbin da db g) :=
  ⟨pe_weak (h ha.run hb.run) fun σ H Q q => by
    obtain ⟨c, F, e, ts, R, q⟩ := q
    refine ⟨c, F, e, ts, R, q.bind (rel := relI) fun F1 H1 e1 x v ef hr q1 => ⟨c, F1, e1, ts, hr.1, q1.bind (rel := relI) fun F2 H2 e2 y u ef2 hr2 q2 => ?_⟩⟩
    obtain ⟨d, hd, k⟩ := q2.lift
    exact hg F2 H2 v u x y d hr2.1.fh (Rep.mono ef2 _ _ hr.2) hr2.2 hd Q fun F' H' w ef eh fh fr hw => k F' H' w ef eh ⟨hr2.1.grow ef eh fh fr, hw⟩⟩
theorem di_op {op : Operator} {r : R2} {g : D → D → Option D} (ho : OpR X (binaryOp op) r) (hg : OpOk X.B r g) (ha : DI X W a da) (hb : DI X W b db) : DI X W (.BinOp a op b pos) (dbin da db g) := di_opr (pe_op ho) hg ha hb
theorem cmp_rd {r : R2} {g : D → D → Option Bool} (hg : CmpOk X.B r g) {ta tb : TE} {σ : L2.St} {H : Hp} {Q : VK} (q : rd relI X.B W (dcmp da db g) σ H Q) : tOp r (rd relV X.B W da) (rd relV X.B W db) σ H Q := by
  obtain ⟨c, F, e, ts, R, q⟩ := q
  refine ⟨c, F, e, ts, R, q.bind (rel := relV) fun F1 H1 e1 x v ef hr q1 => ⟨c, F1, e1, ts, hr.1, ?_⟩⟩
  have q2 := (q1.bind (rel := relV) (Q' := fun u H2 => Ex H1 H2 → r v u H2 Q) fun F2 H2 e2 y u ef2 hr2 q2 ee => by
    obtain ⟨d, hd, k⟩ := q2.lift
    obtain ⟨b, hb, rfl⟩ := Option.map_eq_some_iff.mp hd
    exact hg H2 v u x y b (Rep.mono ee _ _ hr.2) hr2.2 hb Q (k F2 H2 (.bl b) (Ex.refl _) (Ex.refl _) ⟨hr2.1, rfl⟩)).quiet
  obtain ⟨rr, h1, post⟩ := q2
  refine ⟨rr, h1, ?_⟩
  cases rr with
  | err m e1 x => exact post
  | ok m e1 a => exact fun F' H' v' ef' eh hrel => let z := post F' H' v' ef' eh hrel; z.2 z.1 z.1
theorem di_cmp {op : CmpOp} {r : R2} {g : D → D → Option Bool} (ho : OpR X (compareOp op) r) (hg : CmpOk X.B r g) (ha : DV X W a da) (hb : DV X W b db) (hm : behindInMarks op b = false) : DI X W (.Compare a [op] [b] pos) (dcmp da db g) :=
  ⟨pe_weak (pe_cmpR ho ha.run hb.run hm) fun σ H Q q => cmp_rd (ta := rd relV X.B W da) (tb := rd relV X.B W db) hg q⟩
def dtB (d : Den D) : Den Bool := dbind d fun x => dlift (match x with
  | .bl b => some b
  | _ => none)
theorem tB_rd {σ : L2.St} {H : Hp} {Q : Bool → Hp → Prop} (q : rd relB X.B W (dtB da) σ H Q) : rd relI X.B W da σ H (fun x H' => ∃ k, x = .bl k ∧ Q k H') := by
  obtain ⟨c, F, e, ts, R, q⟩ := q
  refine ⟨c, F, e, ts, R, q.bind (rel := relI) fun F1 H1 e1 x v ef hr q1 => ?_⟩
  obtain ⟨b, hb, k⟩ := q1.lift
  cases x <;> cases hb
  exact ⟨b, hr.2, k F1 H1 b (Ex.refl _) (Ex.refl _) ⟨hr.1, rfl⟩⟩
theorem dt_cmp {op : CmpOp} {r : R2} {g : D → D → Option Bool} (ho : OpR X (compareOp op) r) (hg : CmpOk X.B r g) (ha : DV X W a da) (hb : DV X W b db) (hm : behindInMarks op b = false) : DT X W (.Compare a [op] [b] pos) (dtB (dcmp da db g)) :=
  ⟨pt_weak (pt_cmpR ho ha.run hb.run hm) fun σ H Q q => cmp_rd (ta := rd relV X.B W da) (tb := rd relV X.B W db) hg (tB_rd q)⟩
/-- a bool as a test -/
theorem dt_val (h : DI X W ex da) (he : ∀ whole, isTrue ex X.env whole = (do let v ← whole; standAt ex.pos; holding [v] (truthy v)) := by intro _; rfl) : DT X W ex (dtB da) :=
  ⟨pt_weak (pt_val h.run he) fun σ H Q q => tB_rd q⟩
/-- truth of what is seen -/
@[simp] def truD : D → Option Bool
  | .non => some false
  | .bl b => some b
  | .int i => some (i != 0)
  | .str y => if y.length ≤ sizeLine then some ((y.length : Int) != 0) else none
  | .tup ds => some (!ds.isEmpty)
  | .wtp ds => some (!ds.isEmpty)
  | .lst ds => some (!ds.isEmpty)
  | .scr ds => some (!ds.isEmpty)
  | _ => none
theorem Reps.isEmpty {K : KB} {F : Hp} {ds : List D} {xs : List V} (h : Reps K F ds xs) : xs.isEmpty = ds.isEmpty := by
  cases ds with
  | nil => rw [show xs = [] from h]; rfl
  | cons d ds =>
    obtain ⟨x, r, rfl, _⟩ := h
    rfl
theorem tru_of {K : KB} {H : Hp} {d : D} {v : V} {k : Bool} (h : Rep K H d v) (e : truD d = some k) : TruV K v H k := by
  cases d with
  | non => cases e; rw [show v = V.non from h]; exact rfl
  | bl b => cases e; rw [show v = V.bl _ from h]; exact rfl
  | int i => cases e; rw [show v = V.int _ from h]; exact rfl
  | str y =>
    rw [show v = V.str _ from h]
    have e : (if y.length ≤ sizeLine then some ((y.length : Int) != 0) else none) = some k := e
    split at e
    · rename_i hz
      cases e
      exact ⟨hz, rfl⟩
    · cases e
  | tup ds =>
    obtain ⟨a, xs, rfl, h1, h2⟩ := h
    cases e
    exact .inr (.inl ⟨xs, h1, by rw [h2.isEmpty]⟩)
  | wtp ds =>
    obtain ⟨a, xs, rfl, h1, h2⟩ := h
    cases e
    exact .inr (.inl ⟨xs, h1, by rw [h2.isEmpty]⟩)
  | lst ds =>
    obtain ⟨a, xs, rfl, h1, h2⟩ := h
    cases e
    exact .inl ⟨xs, SqL.of h1, by rw [h2.isEmpty]⟩
  | scr ds =>
    obtain ⟨a, xs, rfl, h1, h2⟩ := h
    cases e
    exact .inl ⟨xs, h1, by rw [h2.isEmpty]⟩
  | _ => cases e
def dtru (d : Den D) : Den Bool := dbind d fun d => dlift (truD d)
theorem dt_tru (h : DV X W ex da) (he : ∀ whole, isTrue ex X.env whole = (do let v ← whole; standAt ex.pos; holding [v] (truthy v)) := by intro _; rfl) : DT X W ex (dtru da) :=
  ⟨pt_weak (pt_truth h.run he) fun σ H Q q => by
    obtain ⟨c, F, e, ts, R, q⟩ := q
    refine ⟨c, F, e, ts, R, q.bind (rel := relV) fun F1 H1 e1 x v ef hr q1 => ?_⟩
    obtain ⟨b, hb, k⟩ := q1.lift
    exact ⟨b, tru_of hr.2 hb, k F1 H1 b (Ex.refl _) (Ex.refl _) ⟨hr.1, rfl⟩⟩⟩
/-! ### and, or, not, if else -/
structure DW (X : Cx) (W : WX) (ex : Expr) (den : Den Bool) : Prop where
  run : PW X ex (rd relB X.B W den)
theorem pw_weak {t t' : TT} (h : PW X ex t) (k : ∀ σ H Q, t' σ H Q → t σ H Q) : PW X ex t' := ⟨fun wh pins s σ H Q I q => h.run wh pins s σ H Q I (k σ H Q q)⟩
variable {ta tb : Den Bool} {rest : List Expr}
def dand (d f : Den Bool) : Den Bool := dbind d fun b => if b then f else dpure false
def dor (d f : Den Bool) : Den Bool := dbind d fun b => if b then dpure true else f
def dnot (d : Den Bool) : Den Bool := dbind d fun b => dpure (!b)
theorem DW.t (h : DW X W ex ta) : DT X W ex ta := ⟨h.run.pt⟩
theorem dw_and1 (h : DT X W a ta) : DW X W (.BoolOp .And [a] pos) ta := ⟨pw_and1 h.run⟩
theorem dw_or1 (h : DT X W a ta) : DW X W (.BoolOp .Or [a] pos) ta := ⟨pw_or1 h.run⟩
theorem dw_and (h : DT X W a ta) (h2 : DW X W (.BoolOp .And (b :: rest) pos) tb) : DW X W (.BoolOp .And (a :: b :: rest) pos) (dand ta tb) := ⟨pw_weak (pw_and h.run h2.run) fun σ H Q q => by
  obtain ⟨c, F, e, ts, R, q⟩ := q
  refine ⟨c, F, e, ts, R, q.bind (rel := relB) fun F1 H1 e1 x v ef hr q1 => ?_⟩
  obtain ⟨R1, rfl⟩ := hr
  cases x with
  | true => exact ⟨c, F1, e1, ts, R1, q1⟩
  | false => exact At.pure (a := false) q1 F1 H1 false (Ex.refl _) (Ex.refl _) ⟨R1, rfl⟩⟩
theorem dw_or (h : DT X W a ta) (h2 : DW X W (.BoolOp .Or (b :: rest) pos) tb) : DW X W (.BoolOp .Or (a :: b :: rest) pos) (dor ta tb) := ⟨pw_weak (pw_or h.run h2.run) fun σ H Q q => by
  obtain ⟨c, F, e, ts, R, q⟩ := q
  refine ⟨c, F, e, ts, R, q.bind (rel := relB) fun F1 H1 e1 x v ef hr q1 => ?_⟩
  obtain ⟨R1, rfl⟩ := hr
  cases x with
  | false => exact ⟨c, F1, e1, ts, R1, q1⟩
  | true => exact At.pure (a := true) q1 F1 H1 true (Ex.refl _) (Ex.refl _) ⟨R1, rfl⟩⟩
theorem dt_not (h : DT X W a ta) : DT X W (.UnaryOp .Not a pos) (dnot ta) := ⟨pt_weak (pt_not h.run) fun σ H Q q => by
  obtain ⟨c, F, e, ts, R, q⟩ := q
  refine ⟨c, F, e, ts, R, q.bind (rel := relB) fun F1 H1 e1 x v ef hr q1 => ?_⟩
  obtain ⟨R1, rfl⟩ := hr
  exact At.pure q1 F1 H1 (!x) (Ex.refl _) (Ex.refl _) ⟨R1, rfl⟩⟩
/-- .. as values -/
def dandV (d f : Den D) : Den D := dbind (dtB d) fun b => if b then f else dpure (.bl false)
def dorV (d f : Den D) : Den D := dbind (dtB d) fun b => if b then dpure (.bl true) else f
def dnotV (d : Den D) : Den D := dbind (dtB d) fun b => dpure (.bl (!b))
theorem At.boolV {γ δ : Type} {rel2 : Rel γ δ} {K : KB} {f : Bool → Den γ} {c : Ctx} {F H : Hp} {σ : L2.St} {e : Env} {ts : List (V × O)} {Q : δ → Hp → Prop} {Q' : V → Hp → Prop}
    (h : At rel2 K W (dbind (dtB da) f) c F σ e ts H Q) (k : ∀ F1 H1 e1 b, Ex F F1 → RE K c F1 H1 σ e1 ts → At rel2 K W (f b) c F1 σ e1 ts H1 Q → Q' (.bl b) H1) : At relI K W da c F σ e ts H Q' := by
  have h1 := h.bind (rel := relB) (Q' := fun b H' => Q' (.bl b) H') fun F1 H1 e1 b b' ef hr q => by
    obtain ⟨R1, rfl⟩ := hr
    exact k F1 H1 e1 b ef R1 q
  exact h1.bind (rel := relI) fun F1 H1 e1 x v ef hr q => by
    obtain ⟨b, hb, kk⟩ := q.lift
    cases x <;> cases hb
    rw [show v = V.bl b from hr.2]
    exact kk F1 H1 b (Ex.refl _) (Ex.refl _) ⟨hr.1, rfl⟩
theorem di_one {op} (h : DI X W a da) : DI X W (.BoolOp op [a] pos) da := ⟨pe_one h.run⟩
theorem di_and (h : DI X W a da) (h2 : DI X W (.BoolOp .And (b :: rest) pos) db) : DI X W (.BoolOp .And (a :: b :: rest) pos) (dandV da db) := ⟨pe_weak (pe_and h.run h2.run) fun σ H Q q => by
  obtain ⟨c, F, e, ts, R, q⟩ := q
  refine ⟨c, F, e, ts, R, q.boolV fun F1 H1 e1 x ef R1 q1 => ⟨x, rfl, ?_⟩⟩
  cases x with
  | true => exact ⟨c, F1, e1, ts, R1, q1⟩
  | false => exact At.pure (a := D.bl false) q1 F1 H1 _ (Ex.refl _) (Ex.refl _) ⟨R1, rfl⟩⟩
theorem di_or (h : DI X W a da) (h2 : DI X W (.BoolOp .Or (b :: rest) pos) db) : DI X W (.BoolOp .Or (a :: b :: rest) pos) (dorV da db) := ⟨pe_weak (pe_or h.run h2.run) fun σ H Q q => by
  obtain ⟨c, F, e, ts, R, q⟩ := q
  refine ⟨c, F, e, ts, R, q.boolV fun F1 H1 e1 x ef R1 q1 => ⟨x, rfl, ?_⟩⟩
  cases x with
  | false => exact ⟨c, F1, e1, ts, R1, q1⟩
  | true => exact At.pure (a := D.bl true) q1 F1 H1 _ (Ex.refl _) (Ex.refl _) ⟨R1, rfl⟩⟩
theorem di_not (h : DI X W a da) : DI X W (.UnaryOp .Not a pos) (dnotV da) := ⟨pe_weak (pe_not h.run) fun σ H Q q => by
  obtain ⟨c, F, e, ts, R, q⟩ := q
  exact ⟨c, F, e, ts, R, q.boolV fun F1 H1 e1 x ef R1 q1 => ⟨x, rfl, At.pure q1 F1 H1 _ (Ex.refl _) (Ex.refl _) ⟨R1, rfl⟩⟩⟩⟩
def dif {α : Type} (t : Den Bool) (x y : Den α) : Den α := dbind t fun b => if b then x else y
theorem de_if {t : Expr} {r1 r2 : Den Rv} (h : DT X W t ta) (h1 : DE X W a r1) (h2 : DE X W b r2) : DE X W (.IfExp t a b pos) (dif ta r1 r2) := ⟨pe_weak (pe_ifExp h.run h1.run h2.run) fun σ H Q q => by
  obtain ⟨c, F, e, ts, R, q⟩ := q
  refine ⟨c, F, e, ts, R, q.bind (rel := relB) fun F1 H1 e1 x v ef hr q1 => ?_⟩
  obtain ⟨R1, rfl⟩ := hr
  cases x with
  | true => exact ⟨c, F1, e1, ts, R1, q1⟩
  | false => exact ⟨c, F1, e1, ts, R1, q1⟩⟩

/-! ### argument lists -/
theorem da_nil : DA X W [] (dpure []) := ⟨pa_weak pa_nil fun σ H Q q => by
  obtain ⟨c, F, e, ts, R, q⟩ := q
  exact At.pure q F H [] (Ex.refl _) (Ex.refl _) ⟨R, rfl⟩⟩
def dcons (d : Den D) (ds : Den (List D)) : Den (List D) := dbind d fun x => dbind ds fun xs => dpure (x :: xs)
theorem da_cons {es : List Expr} {ds : Den (List D)} (h : DI X W a da) (hr : DA X W es ds) (hs : starEach (a :: es) X.env = (false, eval a X.env) :: starEach es X.env := by rfl) : DA X W (a :: es) (dcons da ds) :=
  ⟨pa_weak (pa_cons h.run hr.run hs) fun σ H Q q => by
    obtain ⟨c, F, e, ts, R, q⟩ := q
    refine ⟨c, F, e, ts, R, q.bind (rel := relI) fun F1 H1 e1 x v ef hr q1 => ⟨c, F1, e1, ts, hr.1, q1.bind (rel := relA) fun F2 H2 e2 y u ef2 hr2 q2 => ?_⟩⟩
    exact At.pure q2 F2 H2 (v :: u) (Ex.refl _) (Ex.refl _) ⟨hr2.1, v, u, rfl, Rep.mono ef2 _ _ hr.2, hr2.2⟩⟩
/-- seen arguments -/
def relAV : Rel (List D) (List V) := fun K c F H σ e ts d v => RE K c F H σ e ts ∧ Reps K H d v
structure DAV (X : Cx) (W : WX) (es : List Expr) (den : Den (List D)) : Prop where
  run : PA X es (rd relAV X.B W den)
theorem dv_nil : DAV X W [] (dpure []) := ⟨pa_weak pa_nil fun σ H Q q => by
  obtain ⟨c, F, e, ts, R, q⟩ := q
  exact At.pure q F H [] (Ex.refl _) (Ex.refl _) ⟨R, rfl⟩⟩
def dconsV (d : Den D) (ds : Den (List D)) : Den (List D) := dbind d fun x => dbind (dq ds) fun xs => dpure (x :: xs)
theorem dv_cons {es : List Expr} {ds : Den (List D)} (h : DV X W a da) (hr : DAV X W es ds) (hs : starEach (a :: es) X.env = (false, eval a X.env) :: starEach es X.env := by rfl) : DAV X W (a :: es) (dconsV da ds) :=
  ⟨pa_weak (pa_cons h.run hr.run hs) fun σ H Q q => by
    obtain ⟨c, F, e, ts, R, q⟩ := q
    refine ⟨c, F, e, ts, R, q.bind (rel := relV) fun F1 H1 e1 x v ef hr q1 => ⟨c, F1, e1, ts, hr.1, ?_⟩⟩
    have q2 := (q1.bind (rel := relAV) (Q' := fun u H2 => Ex H1 H2 → Q (v :: u) H2) fun F2 H2 e2 y u ef2 hr2 q2 ee =>
      At.pure q2 F2 H2 (v :: u) (Ex.refl _) (Ex.refl _) ⟨hr2.1, v, u, rfl, Rep.mono ee _ _ hr.2, hr2.2⟩).quiet
    obtain ⟨rr, h1, post⟩ := q2
    refine ⟨rr, h1, ?_⟩
    cases rr with
    | err m e1 x => exact post
    | ok m e1 a => exact fun F' H' v' ef' eh hrel => let z := post F' H' v' ef' eh hrel; z.2 z.1 z.1⟩
abbrev R1 := List V → Hp → VK → Prop
def CallOk (K : KB) (r : R1) (g : List D → Option D) : Prop := ∀ (F H : Hp) (xs : List V) (ds : List D) (d : D), Ex F H → Reps K F ds xs → g ds = some d →
  ∀ Q : VK, (∀ F' H' v, Ex F F' → Ex H H' → Ex F' H' → Fresh F H F' → Rep K F' d v → Q v H') → r xs H Q
/-- of seen arguments; what comes needs no heap -/
def CallOkV (K : KB) (r : R1) (g : List D → Option D) : Prop := ∀ (H : Hp) (xs : List V) (ds : List D) (d : D), Reps K H ds xs → g ds = some d →
  ∃ v, (∀ F, Rep K F d v) ∧ ∀ Q : VK, Q v H → r xs H Q
variable {es : List Expr} {ds : Den (List D)} {x : Str} {p : Pos} {id : String}
theorem di_callB {r : R1} {g : List D → Option D} (hc : CallR X (.builtin id) r) (hk : CallOk X.B r g) (hg : Gl X x) (hm : X.mg x = none) (hv : bootBuiltins x = some (.builtin id)) (ha : DA X W (a :: es) ds) (hn : x ≠ "__name__" := by decide)
    (hdb : (x == ("__debug__" : Str)) = false := by decide) (he : starEach (a :: es) X.env = (false, eval a X.env) :: starEach es X.env := by rfl) (hpl : (backTo pos (starEach es X.env)).any (·.1) = false := by rfl) :
    DI X W (.Call (.Name x p) (a :: es) [] pos) (dbind ds fun vs => dlift (g vs)) :=
  ⟨pe_weak (pe_callB hc hg hm hv ha.run hn hdb he hpl) fun σ H Q q => by
    obtain ⟨c, F, e, ts, R, q⟩ := q
    refine ⟨c, F, e, ts, R, q.bind (rel := relA) fun F1 H1 e1 y v ef hr q1 => ?_⟩
    obtain ⟨d, hd, k⟩ := q1.lift
    exact hk F1 H1 v y d hr.1.fh hr.2 hd Q fun F' H' w ef eh fh fr hw => k F' H' w ef eh ⟨hr.1.grow ef eh fh fr, hw⟩⟩
theorem di_callBV {r : R1} {g : List D → Option D} (hc : CallR X (.builtin id) r) (hk : CallOkV X.B r g) (hg : Gl X x) (hm : X.mg x = none) (hv : bootBuiltins x = some (.builtin id)) (ha : DAV X W (a :: es) ds) (hn : x ≠ "__name__" := by decide)
    (hdb : (x == ("__debug__" : Str)) = false := by decide) (he : starEach (a :: es) X.env = (false, eval a X.env) :: starEach es X.env := by rfl) (hpl : (backTo pos (starEach es X.env)).any (·.1) = false := by rfl) :
    DI X W (.Call (.Name x p) (a :: es) [] pos) (dbind ds fun vs => dlift (g vs)) :=
  ⟨pe_weak (pe_callB hc hg hm hv ha.run hn hdb he hpl) fun σ H Q q => by
    obtain ⟨c, F, e, ts, R, q⟩ := q
    refine ⟨c, F, e, ts, R, q.bind (rel := relAV) fun F1 H1 e1 y v ef hr q1 => ?_⟩
    obtain ⟨d, hd, k⟩ := q1.lift
    obtain ⟨w, hw, kk⟩ := hk H1 v y d hr.2 hd
    exact kk Q (k F1 H1 w (Ex.refl _) (Ex.refl _) ⟨hr.1, hw F1⟩)⟩
theorem di_callTV {r : R1} {g : List D → Option D} {T : String} (hc : CallR X (.type T) r) (hk : CallOkV X.B r g) (hg : Gl X x) (hm : X.mg x = none) (hv : bootBuiltins x = some (.type T)) (ha : DAV X W (a :: es) ds) (hn : x ≠ "__name__" := by decide)
    (hdb : (x == ("__debug__" : Str)) = false := by decide) (he : starEach (a :: es) X.env = (false, eval a X.env) :: starEach es X.env := by rfl) (hpl : (backTo pos (starEach es X.env)).any (·.1) = false := by rfl) :
    DI X W (.Call (.Name x p) (a :: es) [] pos) (dbind ds fun vs => dlift (g vs)) :=
  ⟨pe_weak (pe_callTy hc hg hm hv ha.run hn hdb he hpl) fun σ H Q q => by
    obtain ⟨c, F, e, ts, R, q⟩ := q
    refine ⟨c, F, e, ts, R, q.bind (rel := relAV) fun F1 H1 e1 y v ef hr q1 => ?_⟩
    obtain ⟨d, hd, k⟩ := q1.lift
    obtain ⟨w, hw, kk⟩ := hk H1 v y d hr.2 hd
    exact kk Q (k F1 H1 w (Ex.refl _) (Ex.refl _) ⟨hr.1, hw F1⟩)⟩
def dtup (ds : Den (List D)) : Den D := dbind ds fun xs => dlift (if xs.length ≤ sizeLine then some (.tup xs) else none)
def dlst (ds : Den (List D)) : Den Rv := dbind ds fun xs => dlift (if xs.length ≤ sizeLine then some (.new (.lst (xs.map O.im))) else none)
theorem di_tup {n1} (h : DA X W es ds) : DI X W (.Tuple es n1 pos) (dtup ds) :=
  ⟨pe_weak (pe_tup h.run) fun σ H Q q => by
    obtain ⟨c, F, e, ts, R, q⟩ := q
    refine ⟨c, F, e, ts, R, q.bind (rel := relA) fun F1 H1 e1 y v ef hr q1 => ?_⟩
    obtain ⟨d, hd, k⟩ := q1.lift
    split at hd
    · rename_i hz
      cases hd
      refine ⟨by rw [← hr.2.length]; exact hz, fun a ha => k (upd F1 a (.tup v)) (upd H1 a (.tup v)) (.ref a) (Ex.new (none_of_ex hr.1.fh ha)) (Ex.new ha) ⟨hr.1.newF ha, a, v, rfl, SqT.of upd_same, Reps.mono (Ex.new (none_of_ex hr.1.fh ha)) _ _ hr.2⟩⟩
    · cases hd⟩
theorem de_lst (h : DA X W es ds) : DE X W (.List es pos) (dlst ds) :=
  ⟨pe_weak (pe_lst h.run) fun σ H Q q => by
    obtain ⟨c, F, e, ts, R, q⟩ := q
    refine ⟨c, F, e, ts, R, q.bind (rel := relA) fun F1 H1 e1 y v ef hr q1 => ?_⟩
    obtain ⟨d, hd, k⟩ := q1.lift
    split at hd
    · rename_i hz
      cases hd
      refine ⟨by rw [← hr.2.length]; exact hz, fun a ha => k F1 (upd H1 a (.lst v)) (.ref a) (Ex.refl _) (Ex.new ha) ?_⟩
      exact hr.1.newO ha ⟨a, v, [], rfl, rfl, upd_same, owns_im hr.2⟩
    · cases hd⟩
end
end DL

/-! DLD: statements, defs, calls of defs. -/
namespace DL
open PySem PySem.Spec PyProof.Rows L2 Evl

def SRes.more (m : Bool) : Option SRes → Option SRes
  | some (.nx m' e) => some (.nx (m || m') e)
  | some (.rt m' e r) => some (.rt (m || m') e r)
  | some (.bk m' e) => some (.bk (m || m') e)
  | some (.ct m' e) => some (.ct (m || m') e)
  | some (.er m' e x) => some (.er (m || m') e x)
  | none => none
def PostS (K : KB) (W : WX) (D : Ends) (c : Ctx) (F : Hp) (ts : List (V × O)) (H : Hp) (r : SRes) : Prop := match r with
    | .nx m e' => ∀ F' H' σ', Ex F F' → (m = false → Ex H H') → RE K c F' H' σ' e' ts → D.nx σ' H'
    | .rt m e' rv => ∀ F' H' σ' v, Ex F F' → (m = false → Ex H H') → relR K c F' H' σ' e' ts rv v → D.rt v H'
    | .bk m e' => ∀ F' H' σ', Ex F F' → (m = false → Ex H H') → RE K c F' H' σ' e' ts → D.bk σ' H'
    | .ct m e' => ∀ F' H' σ', Ex F F' → (m = false → Ex H H') → RE K c F' H' σ' e' ts → D.ct σ' H'
    | .er m e' x => ∀ F' H' σ' cls d, Ex F F' → (m = false → Ex H H') → RE K c F' H' σ' e' ts → XRel K F' H' x cls d → W cls d σ' H'
def AtS (K : KB) (W : WX) (den : SDen) (D : Ends) (c : Ctx) (F : Hp) (σ : L2.St) (e : Env) (ts : List (V × O)) (H : Hp) : Prop := ∃ r, den e = some r ∧ PostS K W D c F ts H r
def rdS (K : KB) (W : WX) (den : SDen) : TS := fun D σ H => ∃ c F e ts, RE K c F H σ e ts ∧ AtS K W den D c F σ e ts H
structure DS (X : Cx) (W : WX) (st : Stmt) (den : SDen) : Prop where
  run : PS X st (rdS X.B W den)
structure DSs (X : Cx) (W : WX) (st : List Stmt) (den : SDen) : Prop where
  run : PSs X st (rdS X.B W den)
/-- Ends, the next turned -/
abbrev withNx (D : Ends) (N : L2.St → Hp → Prop) : Ends := { D with nx := N }
def snext : SDen := fun e => some (.nx false e)
def sseq (a b : SDen) : SDen := fun e => match a e with
  | some (.nx m e') => SRes.more m (b e')
  | r => r
def sbind {α : Type} (d : Den α) (f : α → SDen) : SDen := fun e => match d e with
  | some (.ok m e' a) => SRes.more m (f a e')
  | some (.err m e' x) => some (.er m e' x)
  | none => none
section
variable {K : KB} {W : WX} {c : Ctx} {F H : Hp} {σ : L2.St} {e : Env} {ts : List (V × O)}
theorem or_l {a b : Bool} (h : (a || b) = false) : a = false := by cases a <;> first | rfl | cases h
theorem or_r {a b : Bool} (h : (a || b) = false) : b = false := by cases a <;> first | exact h | cases h
/-- the rest of a way: what it wants, behind a first part that ended at F1, H1 -/
theorem AtS.more {r2 : SDen} {e1 : Env} {m : Bool} {D : Ends} {F1 H1 : Hp} {σ1 : L2.St} {r : SRes} (hr : SRes.more m (r2 e1) = some r) (ef : Ex F F1) (eh : m = false → Ex H H1)
    (post : PostS K W D c F ts H r) : AtS K W r2 D c F1 σ1 e1 ts H1 := by
  cases h2 : r2 e1 with
  | none => rw [h2] at hr; cases hr
  | some q =>
    rw [h2] at hr
    refine ⟨q, h2, ?_⟩
    cases q with
    | nx m2 e2 =>
      cases hr
      exact fun F' H' σ' ef' eh' R => post F' H' σ' (ef.trans ef') (fun z => (eh (or_l z)).trans (eh' (or_r z))) R
    | rt m2 e2 rv =>
      cases hr
      exact fun F' H' σ' v ef' eh' R => post F' H' σ' v (ef.trans ef') (fun z => (eh (or_l z)).trans (eh' (or_r z))) R
    | bk m2 e2 =>
      cases hr
      exact fun F' H' σ' ef' eh' R => post F' H' σ' (ef.trans ef') (fun z => (eh (or_l z)).trans (eh' (or_r z))) R
    | ct m2 e2 =>
      cases hr
      exact fun F' H' σ' ef' eh' R => post F' H' σ' (ef.trans ef') (fun z => (eh (or_l z)).trans (eh' (or_r z))) R
    | er m2 e2 x =>
      cases hr
      exact fun F' H' σ' cls d ef' eh' R hx => post F' H' σ' cls d (ef.trans ef') (fun z => (eh (or_l z)).trans (eh' (or_r z))) R hx
theorem AtS.sbind {α β : Type} {rel : Rel α β} {den : Den α} {f : α → SDen} {D : Ends} {Q' : β → Hp → Prop} (h : AtS K W (sbind den f) D c F σ e ts H)
    (k : ∀ F1 H1 e1 a v, Ex F F1 → rel K c F1 H1 σ e1 ts a v → AtS K W (f a) D c F1 σ e1 ts H1 → Q' v H1) : At rel K W den c F σ e ts H Q' := by
  obtain ⟨r, hr, post⟩ := h
  unfold DL.sbind at hr
  cases hd : den e with
  | none => rw [hd] at hr; cases hr
  | some r1 =>
    rw [hd] at hr
    cases r1 with
    | err m e1 x =>
      cases hr
      exact ⟨_, hd, fun F' H' cls d ef eh R hx => post F' H' σ cls d ef eh R hx⟩
    | ok m e1 a => exact ⟨_, hd, fun F1 H1 v ef eh hrel => k F1 H1 e1 a v ef hrel (AtS.more hr ef eh post)⟩
theorem AtS.seq {d f : SDen} {D : Ends} {N : L2.St → Hp → Prop} (h : AtS K W (sseq d f) D c F σ e ts H)
    (k : ∀ F1 H1 σ1 e1, Ex F F1 → RE K c F1 H1 σ1 e1 ts → AtS K W f D c F1 σ1 e1 ts H1 → N σ1 H1) : AtS K W d (withNx D N) c F σ e ts H := by
  obtain ⟨r, hr, post⟩ := h
  unfold sseq at hr
  cases hd : d e with
  | none => rw [hd] at hr; cases hr
  | some r1 =>
    rw [hd] at hr
    refine ⟨r1, hd, ?_⟩
    cases r1 with
    | nx m e1 => exact fun F1 H1 σ1 ef eh R => k F1 H1 σ1 e1 ef R (AtS.more hr ef eh post)
    | rt m e1 rv => cases hr; exact post
    | bk m e1 => cases hr; exact post
    | ct m e1 => cases hr; exact post
    | er m e1 x => cases hr; exact post
/-- the ends weakened -/
theorem AtS.imp {d : SDen} {D D' : Ends} (h : AtS K W d D c F σ e ts H) (k1 : ∀ σ' H', D.nx σ' H' → D'.nx σ' H') (k2 : ∀ v H', D.rt v H' → D'.rt v H') (k3 : ∀ σ' H', D.bk σ' H' → D'.bk σ' H') (k4 : ∀ σ' H', D.ct σ' H' → D'.ct σ' H') : AtS K W d D' c F σ e ts H := by
  obtain ⟨r, hr, post⟩ := h
  refine ⟨r, hr, ?_⟩
  cases r with
  | nx m e1 => exact fun F1 H1 σ1 ef eh R => k1 _ _ (post F1 H1 σ1 ef eh R)
  | rt m e1 rv => exact fun F1 H1 σ1 v ef eh R => k2 _ _ (post F1 H1 σ1 v ef eh R)
  | bk m e1 => exact fun F1 H1 σ1 ef eh R => k3 _ _ (post F1 H1 σ1 ef eh R)
  | ct m e1 => exact fun F1 H1 σ1 ef eh R => k4 _ _ (post F1 H1 σ1 ef eh R)
  | er m e1 x => exact post
theorem AtS.next {D : Ends} (h : AtS K W snext D c F σ e ts H) (R : RE K c F H σ e ts) : D.nx σ H := by
  obtain ⟨r, hr, post⟩ := h
  cases hr
  exact post F H σ (Ex.refl _) (fun _ => Ex.refl _) R
end
section
variable {X : Cx} {W : WX} {ex : Expr} {pos : Pos} {st : Stmt} {rest body : List Stmt} {d f : SDen}
theorem dss_nil : DSs X W [] snext := ⟨pss_weak pss_nil fun D σ H q => by
  obtain ⟨c, F, e, ts, R, q⟩ := q
  exact q.next R⟩
theorem dss_one (h : DS X W st d) : DSs X W [st] d := ⟨pss_one h.run⟩
theorem dss_cons (h : DS X W st d) (h2 : DSs X W rest f) : DSs X W (st :: rest) (sseq d f) := ⟨pss_weak (pss_cons h.run h2.run) fun D σ H q => by
  obtain ⟨c, F, e, ts, R, q⟩ := q
  exact ⟨c, F, e, ts, R, q.seq fun F1 H1 σ1 e1 ef R1 q1 => ⟨c, F1, e1, ts, R1, q1⟩⟩⟩
theorem ds_pass : DS X W (.Pass pos) snext := ⟨ps_weak ps_pass fun D σ H q => by
  obtain ⟨c, F, e, ts, R, q⟩ := q
  exact q.next R⟩
theorem ds_doc {x j p2} : DS X W (.Expr (.Constant (.str x) j pos) p2) snext := ⟨ps_weak ps_doc fun D σ H q => by
  obtain ⟨c, F, e, ts, R, q⟩ := q
  exact q.next R⟩
/-- what is not come to -/
theorem ds_never : DS X W st (fun _ => none) := ⟨ps_weak ps_never fun D σ H q => by
  obtain ⟨c, F, e, ts, R, r, hr, _⟩ := q
  cases hr⟩
theorem dss_never {sts : List Stmt} : DSs X W sts (fun _ => none) := ⟨pss_weak pss_never fun D σ H q => by
  obtain ⟨c, F, e, ts, R, r, hr, _⟩ := q
  cases hr⟩
theorem ds_break : DS X W (.Break pos) (fun e => some (.bk false e)) := ⟨ps_weak ps_break fun D σ H q => by
  obtain ⟨c, F, e, ts, R, r, hr, post⟩ := q
  cases hr
  exact post F H σ (Ex.refl _) (fun _ => Ex.refl _) R⟩
theorem ds_cont : DS X W (.Continue pos) (fun e => some (.ct false e)) := ⟨ps_weak ps_continue fun D σ H q => by
  obtain ⟨c, F, e, ts, R, r, hr, post⟩ := q
  cases hr
  exact post F H σ (Ex.refl _) (fun _ => Ex.refl _) R⟩
def sif (t : Den Bool) (a b : SDen) : SDen := sbind t fun k => if k then a else b
theorem ds_if {t : Expr} {dt : Den Bool} {a b : List Stmt} {da db : SDen} (h : DT X W t dt) (h1 : DSs X W a da) (h2 : DSs X W b db) : DS X W (.If t a b pos) (sif dt da db) := ⟨ps_weak (ps_if h.run h1.run h2.run) fun D σ H q => by
  obtain ⟨c, F, e, ts, R, q⟩ := q
  refine ⟨c, F, e, ts, R, q.sbind (rel := relB) fun F1 H1 e1 x v ef hr q1 => ?_⟩
  obtain ⟨R1, rfl⟩ := hr
  cases x with
  | true => exact ⟨c, F1, e1, ts, R1, q1⟩
  | false => exact ⟨c, F1, e1, ts, R1, q1⟩⟩
def srt (d : Den Rv) : SDen := sbind d fun rv e => some (.rt false e rv)
theorem ds_ret {de : Den Rv} (h : DE X W ex de) : DS X W (.Return (some ex) pos) (srt de) := ⟨ps_weak (ps_ret h.run) fun D σ H q => by
  obtain ⟨c, F, e, ts, R, q⟩ := q
  refine ⟨c, F, e, ts, R, q.sbind (rel := relR) fun F1 H1 e1 x v ef hr q1 => ?_⟩
  obtain ⟨r, hr2, post⟩ := q1
  cases hr2
  exact post F1 H1 σ v (Ex.refl _) (fun _ => Ex.refl _) hr⟩
theorem ds_retN : DS X W (.Return none pos) (fun e => some (.rt false e (.im .non))) := ⟨ps_weak ps_retN fun D σ H q => by
  obtain ⟨c, F, e, ts, R, r, hr, post⟩ := q
  cases hr
  exact post F H σ .non (Ex.refl _) (fun _ => Ex.refl _) ⟨R, rfl⟩⟩
def sdrop (d : Den Rv) : SDen := sbind d fun _ => snext
theorem ds_expr {de : Den Rv} (h : DE X W ex de) (hs : swapsWith ex none pos.line X.env = pure false := by rfl) : DS X W (.Expr ex pos) (sdrop de) := ⟨ps_weak (ps_expr h.run hs) fun D σ H q => by
  obtain ⟨c, F, e, ts, R, q⟩ := q
  refine ⟨c, F, e, ts, R, q.sbind (rel := relR) fun F1 H1 e1 x v ef hr q1 => ?_⟩
  cases x with
  | im d => exact q1.next hr.1
  | new o => exact q1.next (RE.drop hr)
  | bor i o => exact q1.next hr.1⟩
/-- a name takes a value -/
def sset (i : Nat) (d : Den Rv) : SDen := sbind d fun rv e => if e.free i = true then (match rv with
  | .im d => some (.nx false (e.set i (some (false, .im d))))
  | .new o => some (.nx false (e.set i (some (false, o))))
  | .bor j o => match e[j]? with
    | some (some (b, _)) => if Env.free (e.set j (some (b, .im o.flat))) i = true then some (.nx false ((e.set j (some (b, .im o.flat))).set i (some (false, .im o.flat)))) else none
    | _ => none) else none
theorem AtS.set {K : KB} {c : Ctx} {F H : Hp} {σ : L2.St} {e : Env} {ts : List (V × O)} {D : Ends} {i : Nat} {de : Den Rv} (q : AtS K W (sset i de) D c F σ e ts H) : At relR K W de c F σ e ts H (fun x H1 => D.nx (σ.set i (some x)) H1) := by
  refine q.sbind (rel := relR) fun F1 H1 e1 rv v ef hr q1 => ?_
  obtain ⟨r, hr2, post⟩ := q1
  dsimp only at hr2
  split at hr2
  · rename_i hfree
    cases rv with
    | im d =>
      cases hr2
      exact post F1 H1 _ (Ex.refl _) (fun _ => Ex.refl _) (hr.1.setIm hfree hr.2)
    | new o =>
      cases hr2
      exact post F1 H1 _ (Ex.refl _) (fun _ => Ex.refl _) (RE.setO hr hfree)
    | bor j o =>
      obtain ⟨R1, hv, b, hb⟩ := hr
      dsimp only at hr2
      rw [hb] at hr2
      dsimp only at hr2
      split at hr2
      · rename_i hf2
        cases hr2
        obtain ⟨F2, v2, e2, hv2, R2, hrep⟩ := R1.freezeS hb
        rw [hv] at hv2
        cases hv2
        exact post F2 H1 _ e2 (fun _ => Ex.refl _) (R2.setIm hf2 hrep)
      · cases hr2
  · cases hr2
theorem ds_set {i : Nat} {x : Str} {pos' : Pos} {de : Den Rv} (hN : X.N.Nodup) (hi : X.N[i]? = some x) (hx : Loc X.env.scope x) (h : DE X W ex de) (hs : swapsWith ex (some (.Name x pos')) pos.line X.env = pure false := by rfl)
    (hf : X.fn x = true ∨ X.env.scope.names.lookup x = some .local := by first | exact .inl rfl | exact .inr rfl | assumption) : DS X W (.Assign [.Name x pos'] ex pos) (sset i de) := ⟨ps_weak (ps_set (i := i) hN hi hx h.run hs) fun D σ H q => by
  obtain ⟨c, F, e, ts, R, q⟩ := q
  exact ⟨c, F, e, ts, R, q.set⟩⟩
/-! ### targets -/
/-- what a store leaves: all slots but these -/
def Off (sl : List Nat) (σ σ' : L2.St) : Prop := σ'.length = σ.length ∧ ∀ j, j ∉ sl → σ'[j]? = σ[j]?
theorem Off.refl {sl : List Nat} {σ : L2.St} : Off sl σ σ := ⟨rfl, fun _ _ => rfl⟩
theorem Off.trans {s1 s2 : List Nat} {σ σ1 σ2 : L2.St} (h : Off s1 σ σ1) (h2 : Off s2 σ1 σ2) : Off (s1 ++ s2) σ σ2 :=
  ⟨h2.1.trans h.1, fun j hj => (h2.2 j fun z => hj (List.mem_append_right _ z)).trans (h.2 j fun z => hj (List.mem_append_left _ z))⟩
def tgR (K : KB) (bind : D → Env → Option Env) (sl : List Nat) : TG := fun v σ H Q => ∃ c F e ts d e', RE K c F H σ e ts ∧ Rep K F d v ∧ bind d e = some e' ∧ ∀ σ', RE K c F H σ' e' ts → Off sl σ σ' → Q σ' H
structure DG (X : Cx) (tg : Expr) (bind : D → Env → Option Env) (sl : List Nat) : Prop where
  run : PG X tg (tgR X.B bind sl)
theorem pg_weak {tg : Expr} {t t' : TG} (h : PG X tg t) (k : ∀ v σ H Q, t' v σ H Q → t v σ H Q) : PG X tg t' := ⟨fun pins s σ H v u Q I r q => h.run pins s σ H v u Q I r (k v σ H Q q)⟩
def bName (i : Nat) : D → Env → Option Env := fun d e => if e.free i = true then some (e.set i (some (false, .im d))) else none
theorem dg_name {i : Nat} {x : Str} (hN : X.N.Nodup) (hi : X.N[i]? = some x) (hx : Loc X.env.scope x) (hf : X.fn x = true ∨ X.env.scope.names.lookup x = some .local := by first | exact .inl rfl | exact .inr rfl | assumption) : DG X (.Name x pos) (bName i) [i] :=
  ⟨pg_weak (pg_name hN hi hx hf) fun v σ H Q q => by
    obtain ⟨c, F, e, ts, d, e', R, hr, hb, k⟩ := q
    unfold bName at hb
    split at hb
    · rename_i hfree
      cases hb
      exact k _ (R.setIm hfree hr) ⟨by rw [List.length_set], fun j hj => List.getElem?_set_ne (fun z => hj (by rw [z]; exact List.mem_cons_self))⟩
    · cases hb⟩
def tgsR (K : KB) (bind : List D → Env → Option Env) (sl : List Nat) : TGs := fun vs σ H Q => ∃ c F e tt ds e', RE K c F H σ e tt ∧ Reps K F ds vs ∧ bind ds e = some e' ∧ ∀ σ', RE K c F H σ' e' tt → Off sl σ σ' → Q σ' H
structure DGs (X : Cx) (ts : List Expr) (bind : List D → Env → Option Env) (sl : List Nat) : Prop where
  run : PGs X ts (tgsR X.B bind sl)
theorem pgs_weak {tg : List Expr} {t t' : TGs} (h : PGs X tg t) (k : ∀ v σ H Q, t' v σ H Q → t v σ H Q) : PGs X tg t' := ⟨fun pins s σ H v u Q I r q => h.run pins s σ H v u Q I r (k v σ H Q q)⟩
def bNil : List D → Env → Option Env := fun ds e => match ds with
  | [] => some e
  | _ => none
def bCons (b : D → Env → Option Env) (bs : List D → Env → Option Env) : List D → Env → Option Env := fun ds e => match ds with
  | d :: ds => (b d e).bind fun e' => bs ds e'
  | [] => none
theorem dgs_nil : DGs X [] bNil [] := ⟨pgs_weak pgs_nil fun vs σ H Q q => by
  obtain ⟨c, F, e, ts, ds, e', R, hr, hb, k⟩ := q
  cases ds with
  | nil =>
    cases hb
    exact ⟨hr, k σ R Off.refl⟩
  | cons d ds => cases hb⟩
theorem dgs_cons {tg : Expr} {tgs : List Expr} {b : D → Env → Option Env} {bs : List D → Env → Option Env} {s1 s2 : List Nat} (h : DG X tg b s1) (h2 : DGs X tgs bs s2) (hs : (assignEach (tg :: tgs) X.env).map (·.2) = assign tg X.env :: (assignEach tgs X.env).map (·.2) := by rfl) :
    DGs X (tg :: tgs) (bCons b bs) (s1 ++ s2) := ⟨pgs_weak (pgs_cons h.run h2.run hs) fun vs σ H Q q => by
  obtain ⟨c, F, e, ts, ds, e', R, hr, hb, k⟩ := q
  cases ds with
  | nil => cases hb
  | cons d ds =>
    obtain ⟨x, r, e1, h1, h2⟩ := hr
    obtain ⟨e2, hb1, hb2⟩ := Option.bind_eq_some_iff.mp hb
    exact ⟨x, r, e1, c, F, e, ts, d, e2, R, h1, hb1, fun σ' R' o' => ⟨c, F, e2, ts, ds, e', R', h2, hb2, fun σ2 R2 o2 => k σ2 R2 (o'.trans o2)⟩⟩⟩
def bTup (n : Nat) (bs : List D → Env → Option Env) : D → Env → Option Env := fun d e => match d with
  | .tup ds => if ds.length = n then bs ds e else none
  | .wtp ds => if ds.length = n then bs ds e else none
  | _ => none
theorem dg_tup {es : List Expr} {k n : Nat} {bs : List D → Env → Option Env} {sl : List Nat} (hc : X.calm = true) (h : DGs X es bs sl) (hn : (assignEach es X.env).length = n := by rfl) (hst : (assignEach es X.env).findIdx? (·.1) = none := by rfl) :
    DG X (.Tuple es k pos) (bTup n bs) sl := ⟨pg_weak (pg_tup hc h.run hn hst) fun v σ H Q q => by
  obtain ⟨c, F, e, ts, d, e', R, hr, hb, k⟩ := q
  cases d with
  | tup ds =>
    obtain ⟨a, xs, rfl, h1, h2⟩ := hr
    unfold bTup at hb
    dsimp only at hb
    split at hb
    · rename_i hz
      exact ⟨a, xs, rfl, ex_t R.fh h1, by rw [← h2.length]; exact hz, c, F, e, ts, ds, e', R, h2, hb, k⟩
    · cases hb
  | wtp ds =>
    obtain ⟨a, xs, rfl, h1, h2⟩ := hr
    unfold bTup at hb
    dsimp only at hb
    split at hb
    · rename_i hz
      exact ⟨a, xs, rfl, ex_t R.fh h1, by rw [← h2.length]; exact hz, c, F, e, ts, ds, e', R, h2, hb, k⟩
    · cases hb
  | _ => cases hb⟩
/-- target = value, frozen -/
def sasg (b : D → Env → Option Env) (d : Den D) : SDen := sbind d fun x e => (b x e).map fun e' => SRes.nx false e'
theorem ds_asg {tg : Expr} {b : D → Env → Option Env} {sl : List Nat} {de : Den D} (h : DI X W ex de) (hg : DG X tg b sl) (hs : swapsWithSole [tg] ex pos.line X.env = pure false := by rfl) (hw : swappedStores [tg] ex X.env = pure none := by rfl)
    (h1 : (assignEach [tg] X.env).map (·.2) = [assign tg X.env] := by rfl) : DS X W (.Assign [tg] ex pos) (sasg b de) := ⟨ps_weak (ps_asg h.run hg.run hs hw h1) fun D σ H q => by
  obtain ⟨c, F, e, ts, R, q⟩ := q
  refine ⟨c, F, e, ts, R, q.sbind (rel := relI) fun F1 H1 e1 x v ef hr q1 => ?_⟩
  obtain ⟨r, hr2, post⟩ := q1
  obtain ⟨e2, hb, he2⟩ := Option.map_eq_some_iff.mp hr2
  subst he2
  exact ⟨c, F1, e1, ts, x, e2, hr.1, hr.2, hb, fun σ' R' _ => post F1 H1 σ' (Ex.refl _) (fun _ => Ex.refl _) R'⟩⟩
end
end DL

/-! DLE: defs as functions of data; calls. -/
namespace DL
open PySem PySem.Spec PyProof.Rows L2 Evl

inductive FRv where
  | im (d : D) | new (o : O)
inductive FRes where
  | ok (m : Bool) (os : List O) (r : FRv)
  | err (m : Bool) (os : List O) (x : Xn)
abbrev FDen := List O → Option FRes
def frvs : FRv → V → List (V × O)
  | .im _, _ => []
  | .new o, v => [(v, o)]
def FRep (K : KB) (F : Hp) : FRv → V → Prop
  | .im d, v => Rep K F d v
  | .new _, _ => True
def PostF (K : KB) (F H : Hp) (fs : List Addr) (Q : VK) (E : XK) (vs : List V) : FRes → Prop
  | .ok m os' rv => ∀ F' H' v fs', Ex F F' → Ex F' H' → (m = false → Ex H H') → (∀ p u, p ∉ fs → H p = some u → H' p = some u) → (∀ p, F' p ≠ none → F p ≠ none ∨ H p = none ∨ p ∈ fs) → FRep K F' rv v →
      Held K F' H' (frvs rv v ++ vs.zip os') fs' → fs'.Nodup → (∀ p ∈ fs', F' p = none ∧ (p ∈ fs ∨ H p = none)) → Q v H'
  | .err m os' x => ∀ F' H' cls d fs', Ex F F' → Ex F' H' → (m = false → Ex H H') → (∀ p u, p ∉ fs → H p = some u → H' p = some u) → (∀ p, F' p ≠ none → F p ≠ none ∨ H p = none ∨ p ∈ fs) → XRel K F' H' x cls d →
      Held K F' H' (vs.zip os') fs' → fs'.Nodup → (∀ p ∈ fs', F' p = none ∧ (p ∈ fs ∨ H p = none)) → E cls d H'
def spD (K : KB) (n : Nat) (f : FDen) : Sp := fun vs H Q E => vs.length = n ∧ ∃ F os fs r, os.length = n ∧ Held K F H (vs.zip os) fs ∧ fs.Nodup ∧ (∀ p ∈ fs, F p = none) ∧ Ex F H ∧ f os = some r ∧ PostF K F H fs Q E vs r
@[simp] def slot0 : O → Slot
  | .im d => some (false, .im d)
  | o => some (true, o)
def env0 (os : List O) (n : Nat) : Env := os.map slot0 ++ List.replicate (n - os.length) none
def outs : List O → Env → Option (List O)
  | [], _ => some []
  | .im d :: os, _ :: e => (outs os e).map fun r => O.im d :: r
  | _ :: os, some (true, o') :: e => (outs os e).map fun r => o' :: r
  | _, _ => none
def fnden (n : Nat) (den : SDen) : FDen := fun os => match den (env0 os n) with
  | some (.nx m e) => (outs os e).map fun os' => .ok m os' (.im .non)
  | some (.rt m e (.im d)) => (outs os e).map fun os' => .ok m os' (.im d)
  | some (.rt m e (.new o)) => (outs os e).map fun os' => .ok m os' (.new o)
  | some (.rt m e (.bor i o)) => match e[i]? with
    | some (some (false, _)) => (outs os (e.set i none)).map fun os' => .ok m os' (.new o)
    | _ => none
  | some (.er m e x) => (outs os e).map fun os' => .err m os' x
  | _ => none
section
variable {K : KB} {c : Ctx} {F F' H H' : Hp} {σ : L2.St} {e : Env} {ts : List (V × O)}
theorem slot0_eq (o : O) : ∃ b, slot0 o = some (b, o) := by
  cases o <;> exact ⟨_, rfl⟩
theorem slots_none : ∀ (n : Nat) (σ0 : L2.St), Slots (List.replicate n none) (List.replicate n none) σ0 []
  | 0, σ0 => ⟨rfl, rfl⟩
  | n + 1, σ0 => ⟨none, _, rfl, slots_none n _⟩
theorem slots_start : ∀ (vs : List V) (os : List O) (n : Nat) (τ : L2.St), vs.length = os.length → Slots (os.map slot0 ++ List.replicate n none) (vs.map some ++ List.replicate n none) (vs.map some ++ τ) (vs.zip os)
  | [], [], n, τ, _ => slots_none n _
  | v :: vs, o :: os, n, τ, h => by
    obtain ⟨b, hb⟩ := slot0_eq o
    have ih := slots_start vs os n τ (by simpa using h)
    show Slots (slot0 o :: _) (some v :: _) (some v :: _) ((v, o) :: _)
    rw [hb]
    exact ⟨v, _, _, rfl, fun _ => rfl, rfl, ih⟩
  | [], _ :: _, _, _, h => by simp at h
  | _ :: _, [], _, _, h => by simp at h
/-- a slot's holding, taken out -/
theorem RE.take {i : Nat} {o : O} {v : V} (R : RE K c F H σ e ts) (h : e[i]? = some (some (false, o))) (hv : σ[i]? = some (some v)) : RE K c F H σ (e.set i none) ((v, o) :: ts) := by
  obtain ⟨hs, fs, h1, h2, h3, h4⟩ := R.hd
  obtain ⟨v', A, B, k1, k2, _, _⟩ := h1.at i h
  rw [hv] at k2
  cases k2
  have hfree : e.free i = true := by unfold Env.free; rw [h]; rfl
  obtain ⟨A', M, B', k3, _, k5⟩ := h1.put i hfree
  have hset : σ.set i (some v) = σ := by
    have hl : i < σ.length := (List.getElem?_eq_some_iff.mp hv).1
    have := (List.getElem?_eq_some_iff.mp hv).2
    rw [← this]
    exact List.set_getElem_self hl
  have k5' := k5 (some v)
  rw [hset] at k5'
  -- the split is at the same place
  have key : ∀ (e : Env) (σ σ0 : L2.St) (hs : List (V × O)) (i : Nat), Slots e σ σ0 hs → e[i]? = some (some (false, o)) → σ[i]? = some (some v) → ∃ A B, hs = A ++ (v, o) :: B ∧ Slots (e.set i none) σ σ0 (A ++ B) := by
    intro e
    induction e with
    | nil => intro σ σ0 hs i _ he; simp at he
    | cons s e ih =>
      intro σ σ0 hs i hsl he hvv
      cases i with
      | zero =>
        have es : s = some (false, o) := by simpa using he
        subst es
        obtain ⟨w, r, hr, e1, hb, e2, h5⟩ := hsl
        subst e1
        have : w = v := by simpa using hvv
        subst this
        exact ⟨[], hr, e2, some w, r, rfl, h5⟩
      | succ i =>
        cases s with
        | none =>
          obtain ⟨x, r, e1, h5⟩ := hsl
          subst e1
          obtain ⟨A, B, q1, q2⟩ := ih _ _ _ i h5 (by simpa using he) (by simpa using hvv)
          exact ⟨A, B, q1, x, r, rfl, q2⟩
        | some q =>
          obtain ⟨w, r, hr, e1, hb, e2, h5⟩ := hsl
          subst e1
          obtain ⟨A, B, q1, q2⟩ := ih _ _ _ i h5 (by simpa using he) (by simpa using hvv)
          exact ⟨(w, q.2) :: A, B, by rw [e2, q1]; rfl, w, r, _, rfl, hb, rfl, q2⟩
  obtain ⟨A2, B2, q1, q2⟩ := key e σ c.σ0 hs i h1 h hv
  subst q1
  rw [← List.append_assoc] at h2
  obtain ⟨f1, f2, e1, h5, h6⟩ := h2.split
  obtain ⟨g0, g2, e2, h7, h8⟩ := h6
  subst e2
  subst e1
  obtain ⟨g1, g3, e3, h9, h10⟩ := h5.split
  subst e3
  refine ⟨R.g, R.f0, R.fh, R.nw, A2 ++ B2, g0 ++ (g1 ++ (g3 ++ g2)), q2, ⟨g0, _, rfl, h7, Held.join h9 (Held.join h10 h8)⟩, ?_, fun p hp => h4 p ?_⟩
  · have hp : (g0 ++ (g1 ++ (g3 ++ g2))).Perm (g1 ++ g3 ++ (g0 ++ g2)) := by
      rw [show g0 ++ (g1 ++ (g3 ++ g2)) = (g0 ++ (g1 ++ g3)) ++ g2 by simp, show g1 ++ g3 ++ (g0 ++ g2) = ((g1 ++ g3) ++ g0) ++ g2 by simp]
      exact List.Perm.append_right g2 List.perm_append_comm
    exact hp.nodup_iff.mpr h3
  · rcases List.mem_append.mp hp with z | z
    · exact List.mem_append_right _ (List.mem_append_left _ z)
    · rcases List.mem_append.mp z with z | z
      · exact List.mem_append_left _ (List.mem_append_left _ z)
      · rcases List.mem_append.mp z with z | z
        · exact List.mem_append_left _ (List.mem_append_right _ z)
        · exact List.mem_append_right _ (List.mem_append_right _ z)
theorem outs_ok (ef : Ex F F') : ∀ (os : List O) (vs : List V) (e : Env) (σ σ0 : L2.St) (hs : List (V × O)) (fs fz : List Addr) (os' : List O), Slots e σ σ0 hs → Held K F' H' hs fs → vs.length = os.length →
    (∀ (i : Nat) (v : V), vs[i]? = some v → σ0[i]? = some (some v)) → Held K F H (vs.zip os) fz → outs os e = some os' → os'.length = os.length ∧ ∃ fs1, Held K F' H' (vs.zip os') fs1 ∧ fs1.Sublist fs
  | [], [], e, σ, σ0, hs, fs, fz, os', h1, h2, hl, h0, hz, ho => by
    cases e <;> (cases ho; exact ⟨rfl, [], rfl, List.nil_sublist _⟩)
  | o :: os, v :: vs, [], σ, σ0, hs, fs, fz, os', h1, h2, hl, h0, hz, ho => by
    cases o <;> cases ho
  | o :: os, v :: vs, s :: e, σ, σ0, hs, fs, fz, os', h1, h2, hl, h0, hz, ho => by
    obtain ⟨z1, z2, _, hz1, hz2⟩ := hz
    -- the rest of the slots
    have rest : ∃ (σ1 : L2.St) (hs1 : List (V × O)) (f1 f2 : List Addr), Slots e σ1 σ0.tail hs1 ∧ fs = f1 ++ f2 ∧ Held K F' H' hs1 f2 ∧ (∀ b o', s = some (b, o') → ∃ w, (b = true → σ0.head? = some (some w)) ∧ Own K F' H' o' w f1) := by
      cases s with
      | none =>
        obtain ⟨x, r, e1, h3⟩ := h1
        exact ⟨r, hs, [], fs, h3, rfl, h2, fun b o' z => by cases z⟩
      | some q =>
        obtain ⟨w, r, hr, e1, hb, e2, h3⟩ := h1
        subst e2
        obtain ⟨f1, f2, e3, h4, h5⟩ := h2
        exact ⟨r, hr, f1, f2, h3, e3, h5, fun b o' z => by
          cases z
          exact ⟨w, hb, h4⟩⟩
    obtain ⟨σ1, hs1, f1, f2, h3, e3, h4, hown⟩ := rest
    subst e3
    have h0' : ∀ (i : Nat) (v : V), vs[i]? = some v → σ0.tail[i]? = some (some v) := fun i w hw => by
      have := h0 (i + 1) w (by simpa using hw)
      cases σ0 with
      | nil => simp at this
      | cons a b => simpa using this
    have hv0 : σ0.head? = some (some v) := by
      have := h0 0 v rfl
      cases σ0 with
      | nil => simp at this
      | cons a b => simpa using this
    have own_case : ∀ (hb : ∃ o', s = some (true, o') ∧ (outs os e).map (fun r => o' :: r) = some os'), os'.length = (o :: os).length ∧ ∃ fs1, Held K F' H' ((v :: vs).zip os') fs1 ∧ fs1.Sublist (f1 ++ f2) := by
      rintro ⟨o', es, hm⟩
      obtain ⟨r, hr, e5⟩ := Option.map_eq_some_iff.mp hm
      subst e5
      obtain ⟨l1, g, hg, hsub⟩ := outs_ok ef os vs e σ1 σ0.tail hs1 f2 z2 r h3 h4 (by simpa using hl) h0' hz2 hr
      obtain ⟨w, hw, how⟩ := hown true o' es
      have := hw rfl
      rw [hv0] at this
      cases this
      exact ⟨by rw [List.length_cons, List.length_cons, l1], f1 ++ g, ⟨f1, g, rfl, how, hg⟩, List.Sublist.append_left hsub f1⟩
    cases o with
    | im d =>
      obtain ⟨r, hr, e5⟩ := Option.map_eq_some_iff.mp (show (outs os e).map (fun r => O.im d :: r) = some os' from ho)
      subst e5
      obtain ⟨l1, g, hg, hsub⟩ := outs_ok ef os vs e σ1 σ0.tail hs1 f2 z2 r h3 h4 (by simpa using hl) h0' hz2 hr
      exact ⟨by rw [List.length_cons, List.length_cons, l1], g, ⟨[], g, rfl, ⟨rfl, Rep.mono ef _ _ hz1.2⟩, hg⟩, hsub.trans (List.sublist_append_right f1 f2)⟩
    | lst os2 => cases s with
      | none => cases ho
      | some q => obtain ⟨b, o'⟩ := q; cases b with
        | false => cases ho
        | true => exact own_case ⟨o', rfl, ho⟩
    | tup os2 => cases s with
      | none => cases ho
      | some q => obtain ⟨b, o'⟩ := q; cases b with
        | false => cases ho
        | true => exact own_case ⟨o', rfl, ho⟩
    | dct ks os2 => cases s with
      | none => cases ho
      | some q => obtain ⟨b, o'⟩ := q; cases b with
        | false => cases ho
        | true => exact own_case ⟨o', rfl, ho⟩
    | ins C ns os2 => cases s with
      | none => cases ho
      | some q => obtain ⟨b, o'⟩ := q; cases b with
        | false => cases ho
        | true => exact own_case ⟨o', rfl, ho⟩
  | [], v :: vs, e, σ, σ0, hs, fs, fz, os', h1, h2, hl, h0, hz, ho => by simp at hl
  | o :: os, [], e, σ, σ0, hs, fs, fz, os', h1, h2, hl, h0, hz, ho => by simp at hl
end
/-- a def as it stands behind the top, with defaults or without -/
structure Df (K : PySem.W.Frag) (x qual : Str) (st : Stmt) (f : Addr) (fd : FuncData) : Prop where
  ex : ∃ (oc : Value) (od : Option Addr) (dV kV doc pm : Value) (an : Option Addr) (cdv ct : Value) (osl : Array (Option Value)),
    fd = PySem.W.fnOf x qual (defArgs st) (defBody st) (defScope st) dV kV doc pm an cdv ct ∧ K.lookup f = some ⟨oc, od, .func fd, osl⟩ ∧ PySem.W.codeIn K cdv qual = true
  kp : PySem.W.keepIn K (.ref f) = true
theorem df_mk {K : PySem.W.Frag} {x qual : Str} {st : Stmt} {f : Addr} {oc : Value} {od an : Option Addr} {osl : Array (Option Value)} {dV kV doc pm cdv ct : Value} (l : K.lookup f = some ⟨oc, od, .func (PySem.W.fnOf x qual (defArgs st) (defBody st) (defScope st) dV kV doc pm an cdv ct), osl⟩)
    (c : PySem.W.codeIn K cdv qual = true) (k : PySem.W.keepIn K (.ref f) = true) : Df K x qual st f (PySem.W.fnOf x qual (defArgs st) (defBody st) (defScope st) dV kV doc pm an cdv ct) := ⟨⟨oc, od, dV, kV, doc, pm, an, cdv, ct, osl, rfl, l, c⟩, k⟩
/-- THE RULE for a def: what its body's denotation says, it does -/
theorem fn_okD {P : Program} {w : World} {K : PySem.W.Frag} {mg : Str → Option Value} {base : Heap} {x qual : Str} {st : Stmt} {f : Addr} {fd : FuncData} {N ps : List Str} {k : Nat} {den : SDen} (Fn : Df K x qual st f fd) (S : FnScope N ps (defScope st))
    (hb : ∀ (cdv : Value) (A : Around) (outer : List PySem.Env) (s : Shared) (H : Hp) (E : XK), Room k (A.deeper (envOfC qual (defScope st) s.heap.objs.size f cdv)) →
      DSs (cxOf (L2.CX P w) P w K mg base N qual (defScope st) f cdv A outer s H E) (fun cls d _ H' => E cls d H') (defBody st) den) :
    FnOk P w K mg base (L2.CX P w) (k + 1) f fd ps (spD ⟨K, P, w, mg⟩ ps.length (fnden N.length den)) := by
  obtain ⟨oc, od, dV, kV, doc, pm, an, cdv, ct, osl, rfl, lk, hcd⟩ := Fn.ex
  refine fn_of lk hcd S (fun vs H Q E h => h.1) (fun A outer s H vs Q E hr h => ?_)
  refine ⟨rdS ⟨K, P, w, mg⟩ (fun cls d _ H' => E cls d H') den, (hb cdv A outer s H E hr).run, ?_⟩
  obtain ⟨hl, F, os, fs, r, hlo, hh, nd, fr, ef, hf, post⟩ := h
  have hlv : vs.length = os.length := hl.trans hlo.symm
  have hN : ps.length ≤ N.length := by
    have := congrArg List.length S.pre
    rw [List.length_take] at this
    omega
  have hst : L2.start N vs = vs.map some ++ List.replicate (N.length - os.length) none := by rw [← hlv]; rfl
  let c : Ctx := ⟨fun p => if p ∈ fs then none else H p, F, L2.start N vs⟩
  have gin : ∀ p, p ∈ fs → c.G p = none := fun p hp => if_pos hp
  have gout : ∀ p, p ∉ fs → c.G p = H p := fun p hp => if_neg hp
  have R : RE ⟨K, P, w, mg⟩ c F H (L2.start N vs) (env0 os N.length) [] := by
    refine ⟨fun p u z => ?_, Ex.refl _, ef, fun p hp => .inl hp, vs.zip os, fs, ?_, hh, nd, fun p hp => ⟨fr p hp, gin p hp⟩⟩
    · by_cases hp : p ∈ fs
      · rw [gin p hp] at z
        cases z
      · rw [gout p hp] at z
        exact z
    · show Slots _ (L2.start N vs) (L2.start N vs) _
      rw [hst]
      exact slots_start vs os _ _ hlv
  have hσ0 : ∀ (i : Nat) (v : V), vs[i]? = some v → (L2.start N vs)[i]? = some (some v) := fun i v hv => by
    have hi : i < vs.length := (List.getElem?_eq_some_iff.mp hv).1
    unfold L2.start
    rw [List.getElem?_append_left (by rw [List.length_map]; exact hi), List.getElem?_map, hv]
    rfl
  -- what a state at the end says
  have fin : ∀ {F' H' : Hp} {σ' : L2.St} {e' : Env} {ts : List (V × O)} {os' : List O}, RE ⟨K, P, w, mg⟩ c F' H' σ' e' ts → Ex F F' → outs os e' = some os' →
      Ex F' H' ∧ (∀ p u, p ∉ fs → H p = some u → H' p = some u) ∧ (∀ p, F' p ≠ none → F p ≠ none ∨ H p = none ∨ p ∈ fs) ∧ ∃ fs', Held ⟨K, P, w, mg⟩ F' H' (ts ++ vs.zip os') fs' ∧ fs'.Nodup ∧ ∀ p ∈ fs', F' p = none ∧ (p ∈ fs ∨ H p = none) := by
    intro F' H' σ' e' ts os' R' ef' ho
    refine ⟨R'.fh, fun p u hp z => R'.g p u ((gout p hp).trans z), fun p hp => ?_, ?_⟩
    · rcases R'.nw p hp with z | z
      · exact .inl z
      · by_cases hp2 : p ∈ fs
        · exact .inr (.inr hp2)
        · rw [gout p hp2] at z
          exact .inr (.inl z)
    · obtain ⟨hs, ff, h1, h2, h3, h4⟩ := R'.hd
      obtain ⟨f1, f2, e1, h5, h6⟩ := h2.split
      obtain ⟨_, g, hg, hsub⟩ := outs_ok ef' os vs e' σ' (L2.start N vs) hs f2 fs os' h1 h6 hlv hσ0 hh ho
      subst e1
      have sub2 : (f1 ++ g).Sublist (f1 ++ f2) := List.Sublist.append_left hsub f1
      refine ⟨f1 ++ g, Held.join h5 hg, h3.sublist sub2, fun p hp => ?_⟩
      obtain ⟨q1, q2⟩ := h4 p (sub2.subset hp)
      refine ⟨q1, ?_⟩
      by_cases hp2 : p ∈ fs
      · exact .inl hp2
      · rw [gout p hp2] at q2
        exact .inr q2
  refine ⟨c, F, env0 os N.length, [], R, ?_⟩
  unfold fnden at hf
  cases hd : den (env0 os N.length) with
  | none => rw [hd] at hf; cases hf
  | some q =>
    rw [hd] at hf
    refine ⟨q, hd, ?_⟩
    cases q with
    | nx m e1 =>
      obtain ⟨os', ho, e2⟩ := Option.map_eq_some_iff.mp hf
      subst e2
      intro F' H' σ' ef' eh' R'
      obtain ⟨a1, a2, a3, fs', a4, a5, a6⟩ := fin R' ef' ho
      exact post F' H' .non fs' ef' a1 eh' a2 a3 rfl a4 a5 a6
    | rt m e1 rv =>
      cases rv with
      | im d =>
        obtain ⟨os', ho, e2⟩ := Option.map_eq_some_iff.mp hf
        subst e2
        intro F' H' σ' v ef' eh' R'
        obtain ⟨a1, a2, a3, fs', a4, a5, a6⟩ := fin R'.1 ef' ho
        exact post F' H' v fs' ef' a1 eh' a2 a3 R'.2 a4 a5 a6
      | new o =>
        obtain ⟨os', ho, e2⟩ := Option.map_eq_some_iff.mp hf
        subst e2
        intro F' H' σ' v ef' eh' R'
        obtain ⟨a1, a2, a3, fs', a4, a5, a6⟩ := fin (ts := [(v, o)]) R' ef' ho
        exact post F' H' v fs' ef' a1 eh' a2 a3 True.intro a4 a5 a6
      | bor i o =>
        dsimp only at hf
        cases he : e1[i]? with
        | none => rw [he] at hf; cases hf
        | some s =>
          rw [he] at hf
          cases s with
          | none => cases hf
          | some s =>
            obtain ⟨b, o1⟩ := s
            cases b with
            | true => cases hf
            | false =>
              obtain ⟨os', ho, e2⟩ := Option.map_eq_some_iff.mp hf
              subst e2
              intro F' H' σ' v ef' eh' R'
              obtain ⟨R2, hv, b, hb⟩ := R'
              rw [he] at hb
              cases hb
              obtain ⟨a1, a2, a3, fs', a4, a5, a6⟩ := fin (ts := [(v, o)]) (R2.take he hv) ef' ho
              exact post F' H' v fs' ef' a1 eh' a2 a3 True.intro a4 a5 a6
    | bk m e1 => cases hf
    | ct m e1 => cases hf
    | er m e1 x =>
      obtain ⟨os', ho, e2⟩ := Option.map_eq_some_iff.mp hf
      subst e2
      intro F' H' σ' cls d ef' eh' R' hx
      obtain ⟨a1, a2, a3, fs', a4, a5, a6⟩ := fin R' ef' ho
      exact post F' H' cls d fs' ef' a1 eh' a2 a3 hx a4 a5 a6

/-! ### calls -/
/-- a def's denotation at frozen arguments, as an expression's -/
def dfn (f : FDen) (ds : List D) : Den Rv := fun e => match f (ds.map O.im) with
  | some (.ok _ _ (.im d)) => some (.ok false e (.im d))
  | some (.ok _ _ (.new o)) => some (.ok false e (.new o))
  | some (.err _ _ x) => some (.err false e x)
  | none => none
section
variable {K : KB} {c : Ctx} {F F' H H' : Hp} {σ : L2.St} {e : Env} {ts : List (V × O)}
theorem held_im : ∀ {ds : List D} {vs : List V}, Reps K F ds vs → Held K F H (vs.zip (ds.map O.im)) []
  | [], vs, h => by rw [show vs = [] from h]; rfl
  | d :: ds, vs, h => by
    obtain ⟨x, r, rfl, h1, h2⟩ := h
    exact ⟨[], [], rfl, ⟨rfl, h1⟩, held_im h2⟩
/-- behind a call of frozen arguments: a new thing is a temporary -/
theorem RE.called {v : V} {o : O} {fs : List Addr} (R : RE K c F H σ e ts) (ef : Ex F F') (eh : Ex H H') (fh : Ex F' H') (fr : Fresh F H F') (ho : Own K F' H' o v fs) (nd : fs.Nodup) (hn : ∀ p ∈ fs, F' p = none ∧ H p = none) :
    RE K c F' H' σ e ((v, o) :: ts) := by
  have R' := R.grow ef eh fh fr
  obtain ⟨hs0, fs0, h10, h20, h30, h40⟩ := R.hd
  obtain ⟨r1, r2, r3, r4, hs, fs1, h1, h2, h3, h4⟩ := R'
  have th : ∀ p ∈ fs0, H p ≠ none := Held.there h20
  have ff : ∀ p ∈ fs0, F' p = none := fun p hp => by
    cases q : F' p with
    | none => rfl
    | some u =>
      rcases fr p (by rw [q]; simp) with z | z
      · exact absurd (h40 p hp).1 z
      · exact absurd z (th p hp)
  refine ⟨r1, r2, r3, r4, hs0, fs ++ fs0, h10, ⟨fs, fs0, rfl, ho, Held.mono ef (fun q _ w z => eh q w z) h20⟩, List.nodup_append.mpr ⟨nd, h30, fun a ha b hb z => ?_⟩, fun p hp => ?_⟩
  · subst z
    exact th a hb (hn a ha).2
  · rcases List.mem_append.mp hp with z | z
    · exact ⟨(hn p z).1, none_of_ex R.g (hn p z).2⟩
    · exact ⟨ff p z, (h40 p z).2⟩
theorem held_frvs {rv : FRv} {v : V} {vs : List V} {os : List O} {fs : List Addr} (h : Held K F' H' (frvs rv v ++ vs.zip os) fs) : match rv with
    | .im _ => True
    | .new o => ∃ f1, Own K F' H' o v f1 ∧ f1.Sublist fs := by
  cases rv with
  | im d => exact True.intro
  | new o =>
    obtain ⟨f1, f2, e1, h1, _⟩ := h
    exact ⟨f1, h1, by rw [e1]; exact List.sublist_append_left f1 f2⟩
/-- the wish of a called def, from what follows -/
theorem spD_of {W : WX} {n : Nat} {f : FDen} {ds : List D} {vs : List V} {Q : VK} (R : RE K c F H σ e ts) (hr : Reps K F ds vs) (hn : ds.length = n) (q : At relR K W (dfn f ds) c F σ e ts H Q) : spD K n f vs H Q (fun cls d H' => W cls d σ H') := by
  obtain ⟨r, hr2, post⟩ := q
  unfold dfn at hr2
  refine ⟨hr.length.symm.trans hn, F, ds.map O.im, [], ?_⟩
  cases hf : f (ds.map O.im) with
  | none => rw [hf] at hr2; cases hr2
  | some fr =>
    rw [hf] at hr2
    refine ⟨fr, by rw [List.length_map]; exact hn, held_im hr, List.nodup_nil, fun p hp => (nomatch hp), R.fh, rfl, ?_⟩
    cases fr with
    | ok m os rv =>
      intro F' H' v fs' ef fh _ keep fr hrep hh nd hfs
      have eh : Ex H H' := fun p u z => keep p u (fun q => nomatch q) z
      have fresh : Fresh F H F' := fun p hp => by
        rcases fr p hp with z | z | z
        · exact .inl z
        · exact .inr z
        · cases z
      cases rv with
      | im d =>
        cases hr2
        exact post F' H' v ef (fun _ => eh) ⟨R.grow ef eh fh fresh, hrep⟩
      | new o =>
        cases hr2
        obtain ⟨f1, h1, hsub⟩ := held_frvs hh
        refine post F' H' v ef (fun _ => eh) (R.called ef eh fh fresh h1 (nd.sublist hsub) fun p hp => ?_)
        obtain ⟨z1, z2⟩ := hfs p (hsub.subset hp)
        rcases z2 with z2 | z2
        · cases z2
        · exact ⟨z1, z2⟩
    | err m os x =>
      cases hr2
      intro F' H' cls d fs' ef fh _ keep fr hx hh nd hfs
      have eh : Ex H H' := fun p u z => keep p u (fun q => nomatch q) z
      exact post F' H' cls d ef (fun _ => eh) (R.grow ef eh fh fun p hp => by
        rcases fr p hp with z | z | z
        · exact .inl z
        · exact .inr z
        · cases z) hx
end
section
variable {X : Cx} {W : WX} {a : Expr} {es : List Expr} {pos p : Pos} {x : Str} {k : Nat} {f C : Addr} {fd : FuncData} {ps : List Str} {fn : FDen} {ds : Den (List D)}
def dcall (n : Nat) (f : FDen) (ds : Den (List D)) : Den Rv := dbind ds fun vs => if vs.length = n then dfn f vs else fun _ => none
/-- f(a, ..): a def called, its arguments frozen -/
theorem de_callI {n : Nat} (Fn : FnOk X.prog X.w X.B X.mg X.base (L2.CX X.prog X.w) k f fd ps (spD X.B n fn)) (tk : Takes X W) (hr : Room k X.A) (hg : Gl X x) (hm : X.mg x = some (.ref f)) (hk : PySem.W.keepIn X.B (.ref f) = true) (hb : Binds X.B fd ps [])
    (ha : DA X W (a :: es) ds) (hdb : (x == ("__debug__" : Str)) = false := by decide) (he : starEach (a :: es) X.env = (false, eval a X.env) :: starEach es X.env := by rfl) (hpl : (backTo pos (starEach es X.env)).any (·.1) = false := by rfl) :
    DE X W (.Call (.Name x p) (a :: es) [] pos) (dcall n fn ds) := ⟨pe_weak (pe_callS Fn hr hg hm hk hb (fun σ => passAt tk σ) ha.run hdb he hpl) fun σ H Q q => by
  obtain ⟨c, F, e, ts, R, q⟩ := q
  refine ⟨c, F, e, ts, R, q.bind (rel := relA) fun F1 H1 e1 dl v ef hr1 q1 => ?_⟩
  split at q1
  · rename_i hz
    exact spD_of hr1.1 hr1.2 hz q1
  · obtain ⟨r, hr2, _⟩ := q1
    cases hr2⟩
/-- a new instance: __init__ is handed the empty one -/
def dmake (C : Addr) (n : Nat) (f : FDen) (ds : List D) : Den Rv := fun e => if ds.length + 1 = n then (match f (.ins C [] [] :: ds.map O.im) with
  | some (.ok _ (o :: _) (.im .non)) => some (.ok false e (.new o))
  | some (.err _ _ x) => some (.err false e x)
  | _ => none) else none
theorem ex_made {H : Hp} {x dx C : Addr} (hx : H x = none) (hdx : H dx = none) : Ex H (upd (upd H dx (.own x)) x (.ins C dx [])) := fun p u z => by
  rw [upd_ne (ne_of_none z hx), upd_ne (ne_of_none z hdx)]
  exact z
theorem spD_make {K : KB} {c : Ctx} {F H : Hp} {σ : L2.St} {e : Env} {ts : List (V × O)} {n : Nat} {f : FDen} {ds : List D} {vs : List V} {Q : VK} {C : Addr} (R : RE K c F H σ e ts) (hr : Reps K F ds vs) (q : At relR K W (dmake C n f ds) c F σ e ts H Q) (x dx : Addr) (hx : H x = none) (hdx : H dx = none) :
    spD K n f (.ref x :: vs) (upd (upd H dx (.own x)) x (.ins C dx [])) (fun v H2 => v = .non ∧ Q (.ref x) H2) (fun cls d H' => W cls d σ H') := by
  obtain ⟨r, hr2, post⟩ := q
  unfold dmake at hr2
  split at hr2
  · rename_i hn
    have em := ex_made (C := C) hx hdx
    refine ⟨by rw [List.length_cons, ← hr.length]; exact hn, F, .ins C [] [] :: ds.map O.im, [x], ?_⟩
    cases hf : f (.ins C [] [] :: ds.map O.im) with
    | none => rw [hf] at hr2; cases hr2
    | some fr =>
      rw [hf] at hr2
      refine ⟨fr, by rw [List.length_cons, List.length_map]; exact hn, ⟨[x], [], rfl, ⟨x, dx, [], [], rfl, rfl, upd_same, rfl, ⟨rfl, rfl⟩⟩, held_im hr⟩, List.nodup_cons.mpr ⟨fun z => (nomatch z), List.nodup_nil⟩, fun p hp => ?_, R.fh.trans em, rfl, ?_⟩
      · have e1 : p = x := by simpa using hp
        subst e1
        exact none_of_ex R.fh hx
      · -- what is new in the made heap is new
        have keepH : ∀ {H' : Hp}, (∀ p u, p ∉ [x] → (upd (upd H dx (.own x)) x (.ins C dx [])) p = some u → H' p = some u) → Ex H H' := fun keep p u z => keep p u (fun hm => by
          have e1 : p = x := by simpa using hm
          subst e1
          rw [hx] at z
          cases z) (em p u z)
        have freshH : ∀ {F' : Hp}, (∀ p, F' p ≠ none → F p ≠ none ∨ (upd (upd H dx (.own x)) x (.ins C dx [])) p = none ∨ p ∈ [x]) → Fresh F H F' := fun fr p hp => by
          rcases fr p hp with z | z | z
          · exact .inl z
          · exact .inr (none_of_ex em z)
          · have e1 : p = x := by simpa using z
            subst e1
            exact .inr hx
        cases fr with
        | ok m os rv =>
          cases os with
          | nil => cases hr2
          | cons o os =>
            cases rv with
            | new o' => cases hr2
            | im d =>
              cases d with
              | non =>
                cases hr2
                intro F' H' v fs' ef fh _ keep fr hrep hh nd hfs
                refine ⟨hrep, ?_⟩
                obtain ⟨f1, f2, e1, h1, _⟩ := hh
                subst e1
                exact post F' H' (.ref x) ef (fun _ => keepH keep) (R.called ef (keepH keep) fh (freshH fr) h1 (List.nodup_append.mp nd).1 fun p hp => by
                  obtain ⟨z1, z2⟩ := hfs p (List.mem_append_left _ hp)
                  refine ⟨z1, ?_⟩
                  rcases z2 with z2 | z2
                  · have e1 : p = x := by simpa using z2
                    subst e1
                    exact hx
                  · exact none_of_ex em z2)
              | _ => cases hr2
        | err m os x' =>
          cases hr2
          intro F' H' cls d fs' ef fh _ keep fr hxr hh nd hfs
          exact post F' H' cls d ef (fun _ => keepH keep) (R.grow ef (keepH keep) fh (freshH fr)) hxr
  · cases hr2
end
end DL

/-! DLF: what the operators are over data. -/
namespace DL
open PySem PySem.Spec PyProof.Rows L2 Evl

theorem ok_of_val {K : KB} {F H : Hp} {d : D} {v : V} {Q : VK} (fh : Ex F H) (hr : Rep K F d v) (k : ∀ F' H' v, Ex F F' → Ex H H' → Ex F' H' → Fresh F H F' → Rep K F' d v → Q v H') : Q v H := k F H v (Ex.refl _) (Ex.refl _) fh Fresh.refl hr
theorem ok_of_int {K : KB} {F H : Hp} {i : Int} {Q : VK} (fh : Ex F H) (k : ∀ F' H' v, Ex F F' → Ex H H' → Ex F' H' → Fresh F H F' → Rep K F' (.int i) v → Q v H') : Q (.int i) H := ok_of_val fh (d := .int i) rfl k
theorem ok_of_str {K : KB} {F H : Hp} {i : Str} {Q : VK} (fh : Ex F H) (k : ∀ F' H' v, Ex F F' → Ex H H' → Ex F' H' → Fresh F H F' → Rep K F' (.str i) v → Q v H') : Q (.str i) H := ok_of_val fh (d := .str i) rfl k
/-- a result that is a new object, frozen -/
theorem ok_of_new {K : KB} {F H : Hp} {d : D} {Q : VK} {o : HO} {p : Addr} (fh : Ex F H) (hp : H p = none) (hr : Rep K (upd F p o) d (.ref p)) (k : ∀ F' H' v, Ex F F' → Ex H H' → Ex F' H' → Fresh F H F' → Rep K F' d v → Q v H') : Q (.ref p) (upd H p o) :=
  k (upd F p o) (upd H p o) (.ref p) (Ex.new (none_of_ex fh hp)) (Ex.new hp) (fun a u z => by
    by_cases q : a = p
    · subst q
      rw [upd_same] at z ⊢
      exact z
    · rw [upd_ne q] at z ⊢
      exact fh a u z) (fun a z => by
    by_cases q : a = p
    · subst q
      exact .inr hp
    · rw [upd_ne q] at z
      exact .inl z) hr

/-! ### arithmetic -/
@[simp] def addD : D → D → Option D
  | .int i, .int j => some (.int (i + j))
  | .str x, .str y => if x.length + y.length ≤ sizeLine then some (.str (x ++ y)) else none
  | .tup xs, .tup ys => if xs.length + ys.length ≤ sizeLine then some (.tup (xs ++ ys)) else none
  | _, _ => none
theorem reps_ne {K : KB} {F : Hp} {ds : List D} {xs : List V} (h : Reps K F ds xs) (e : ds ≠ []) : xs ≠ [] := fun z => by
  subst z
  have := h.length
  cases ds with
  | nil => exact e rfl
  | cons _ _ => simp at this
theorem reps_nil {K : KB} {F : Hp} {ds : List D} (h : Reps K F ds []) : ds = [] := by
  have := h.length
  cases ds with
  | nil => rfl
  | cons _ _ => simp at this
section
variable {X : Cx}
def rAdd3 (K : KB) : R2 := fun x y H Q => rI0 (fun i j => V.int (i + j)) x y H Q ∨ (∃ i j, x = .str i ∧ y = .str j ∧ i.length + j.length ≤ sizeLine ∧ Q (.str (i ++ j)) H) ∨ rCatA K x y H Q
theorem op_add3 : OpR X (binaryOp .Add) (rAdd3 X.B) := op_add.or (op_add_str.or op_catA)
theorem cat_ok {K : KB} {F H : Hp} {xs ys : List V} {ds es : List D} {a b : Addr} (fh : Ex F H) (ha : SqT K F a xs) (hb : SqT K F b ys) (h1 : Reps K F ds xs) (h2 : Reps K F es ys) (hz : ds.length + es.length ≤ sizeLine)
    (Q : VK) (k : ∀ F' H' v, Ex F F' → Ex H H' → Ex F' H' → Fresh F H F' → Rep K F' (.tup (ds ++ es)) v → Q v H') : rCatA K (.ref a) (.ref b) H Q := by
  refine ⟨a, b, xs, ys, rfl, rfl, ex_t fh ha, ex_t fh hb, by rw [← h1.length, ← h2.length]; exact hz, fun e => ?_, fun _ e => ?_, fun _ _ p hp => ?_⟩
  · subst e
    have e2 := reps_nil h1
    subst e2
    exact ok_of_val fh (d := .tup ([] ++ es)) ⟨b, ys, rfl, hb, h2⟩ k
  · subst e
    have e2 := reps_nil h2
    subst e2
    refine ok_of_val fh (d := .tup (ds ++ [])) ?_ k
    rw [List.append_nil]
    exact ⟨a, xs, rfl, ha, h1⟩
  · exact ok_of_new fh hp (d := .tup (ds ++ es)) ⟨p, xs ++ ys, rfl, SqT.of upd_same, Reps.mono (Ex.new (none_of_ex fh hp)) _ _ (h1.append h2)⟩ k
theorem ok_add {K : KB} : OpOk K (rAdd3 K) addD := by
  intro F H x y dx dy d fh h1 h2 hg Q k
  unfold addD at hg
  split at hg
  · cases hg
    exact .inl ⟨_, _, h1, h2, ok_of_int fh k⟩
  · split at hg
    · rename_i hz
      cases hg
      exact .inr (.inl ⟨_, _, h1, h2, hz, ok_of_str fh k⟩)
    · cases hg
  · split at hg
    · rename_i hz
      cases hg
      obtain ⟨a, xs, rfl, ha, hr⟩ := h1
      obtain ⟨b, ys, rfl, hb, hr2⟩ := h2
      exact .inr (.inr (cat_ok fh ha hb hr hr2 hz Q k))
    · cases hg
  · cases hg
@[simp] def subD : D → D → Option D
  | .int i, .int j => some (.int (i - j))
  | _, _ => none
theorem ok_sub {K : KB} : OpOk K (rI0 fun i j => V.int (i - j)) subD := by
  intro F H x y dx dy d fh h1 h2 hg Q k
  unfold subD at hg
  split at hg
  · cases hg
    exact ⟨_, _, h1, h2, ok_of_int fh k⟩
  · cases hg
def mulOk (i j : Int) : Bool := decide (i.natAbs < 2 ^ 64) || decide (j.natAbs < 2 ^ 64) || decide (i.natAbs.log2 + j.natAbs.log2 < 1000000)
@[simp] def mulD : D → D → Option D
  | .int i, .int j => if mulOk i j = true then some (.int (i * j)) else none
  | _, _ => none
def rMul2 : R2 := fun x y H Q => rI CMul (fun i j => V.int (i * j)) x y H Q ∨ rI CMulW (fun i j => V.int (i * j)) x y H Q
theorem op_mul2 : OpR X (binaryOp .Mult) rMul2 := op_mul.or op_mulW
theorem ok_mul {K : KB} : OpOk K rMul2 mulD := by
  intro F H x y dx dy d fh h1 h2 hg Q k
  unfold mulD at hg
  split at hg
  · split at hg
    · rename_i i j hz
      cases hg
      unfold mulOk at hz
      rw [Bool.or_eq_true, Bool.or_eq_true, decide_eq_true_eq, decide_eq_true_eq, decide_eq_true_eq] at hz
      rcases hz with (hz | hz) | hz
      · exact .inl ⟨i, j, h1, h2, .inl (by omega), ok_of_int fh k⟩
      · exact .inl ⟨i, j, h1, h2, .inr (by omega), ok_of_int fh k⟩
      · exact .inr ⟨i, j, h1, h2, hz, ok_of_int fh k⟩
    · cases hg
  · cases hg
def CDivX (i j : Int) : Prop := j ≠ 0 ∧ j.natAbs.log2 < 9000
theorem op_fdivX : OpR X (binaryOp .FloorDiv) (rI CDivX fun i j => .int (i.fdiv j)) := opI fun _ _ _ _ _ _ _ hc q => floordiv_int hc.1 q (.inl (PyProof.noPylong_of_log2 hc.2))
@[simp] def divD : D → D → Option D
  | .int i, .int j => if j ≠ 0 ∧ j.natAbs.log2 < 9000 then some (.int (i.fdiv j)) else none
  | _, _ => none
theorem ok_div {K : KB} : OpOk K (rI CDivX fun i j => .int (i.fdiv j)) divD := by
  intro F H x y dx dy d fh h1 h2 hg Q k
  unfold divD at hg
  split at hg
  · split at hg
    · rename_i i j hz
      cases hg
      exact ⟨i, j, h1, h2, hz, ok_of_int fh k⟩
    · cases hg
  · cases hg
@[simp] def modD : D → D → Option D
  | .int i, .int j => if j ≠ 0 then some (.int (i.fmod j)) else none
  | _, _ => none
theorem ok_mod {K : KB} : OpOk K (rI (fun _ j => j ≠ 0) fun i j => .int (i.fmod j)) modD := by
  intro F H x y dx dy d fh h1 h2 hg Q k
  unfold modD at hg
  split at hg
  · split at hg
    · rename_i i j hz
      cases hg
      exact ⟨i, j, h1, h2, hz, ok_of_int fh k⟩
    · cases hg
  · cases hg
@[simp] def powD : D → D → Option D
  | .int i, .int j => if 0 ≤ j ∧ j ≤ 1000000 ∧ i.natAbs < 2 ^ 64 then some (.int (i ^ j.toNat)) else none
  | _, _ => none
theorem ok_pow {K : KB} : OpOk K (rI CPow fun i j => .int (i ^ j.toNat)) powD := by
  intro F H x y dx dy d fh h1 h2 hg Q k
  unfold powD at hg
  split at hg
  · split at hg
    · rename_i i j hz
      cases hg
      exact ⟨i, j, h1, h2, hz, ok_of_int fh k⟩
    · cases hg
  · cases hg
variable {W : WX} {a b : Expr} {pos : Pos} {da db : Den D}
theorem di_add (ha : DI X W a da) (hb : DI X W b db) : DI X W (.BinOp a .Add b pos) (dbin da db addD) := di_op op_add3 ok_add ha hb
theorem di_sub (ha : DI X W a da) (hb : DI X W b db) : DI X W (.BinOp a .Sub b pos) (dbin da db subD) := di_op op_sub ok_sub ha hb
theorem di_mul (ha : DI X W a da) (hb : DI X W b db) : DI X W (.BinOp a .Mult b pos) (dbin da db mulD) := di_op op_mul2 ok_mul ha hb
theorem di_div (ha : DI X W a da) (hb : DI X W b db) : DI X W (.BinOp a .FloorDiv b pos) (dbin da db divD) := di_op op_fdivX ok_div ha hb
theorem di_mod (ha : DI X W a da) (hb : DI X W b db) : DI X W (.BinOp a .Mod b pos) (dbin da db modD) := di_op op_modN ok_mod ha hb
theorem di_pow (ha : DI X W a da) (hb : DI X W b db) : DI X W (.BinOp a .Pow b pos) (dbin da db powD) := di_op op_pow ok_pow ha hb
@[simp] def negD : D → Option D
  | .int i => some (.int (-i))
  | _ => none
theorem di_neg (ha : DI X W a da) : DI X W (.UnaryOp .USub a pos) (dbind da fun x => dlift (negD x)) := ⟨pe_weak (pe_un un_neg ha.run) fun σ H Q q => by
  obtain ⟨c, F, e, ts, R, q⟩ := q
  refine ⟨c, F, e, ts, R, q.bind (rel := relI) fun F1 H1 e1 x v ef hr q1 => ?_⟩
  obtain ⟨d, hd, k⟩ := q1.lift
  cases x <;> cases hd
  exact ⟨_, hr.2, k F1 H1 _ (Ex.refl _) (Ex.refl _) ⟨hr.1, rfl⟩⟩⟩

/-! ### comparisons -/
@[simp] def ltD : D → D → Option Bool
  | .int i, .int j => some (decide (i < j))
  | .str x, .str y => some (decide (x.cps.toList < y.cps.toList))
  | _, _ => none
def rLt2 : R2 := fun x y H Q => rI0 (fun i j => V.bl (decide (i < j))) x y H Q ∨ (∃ i j, x = .str i ∧ y = .str j ∧ Q (.bl (decide (i.cps.toList < j.cps.toList))) H)
theorem op_lt2 : OpR X (compareOp .Lt) rLt2 := op_lt.or op_lt_str
theorem ok_lt {K : KB} : CmpOk K rLt2 ltD := by
  intro H x y dx dy b h1 h2 hg Q q
  unfold ltD at hg
  split at hg
  · cases hg
    exact .inl ⟨_, _, h1, h2, q⟩
  · cases hg
    exact .inr ⟨_, _, h1, h2, q⟩
  · cases hg
@[simp] def leD : D → D → Option Bool
  | .int i, .int j => some (decide (i ≤ j))
  | _, _ => none
@[simp] def gtD : D → D → Option Bool
  | .int i, .int j => some (decide (j < i))
  | _, _ => none
@[simp] def geD : D → D → Option Bool
  | .int i, .int j => some (decide (j ≤ i))
  | _, _ => none
theorem ok_le {K : KB} : CmpOk K (rI0 fun i j => V.bl (decide (i ≤ j))) leD := by
  intro H x y dx dy b h1 h2 hg Q q
  unfold leD at hg
  split at hg
  · cases hg
    exact ⟨_, _, h1, h2, q⟩
  · cases hg
theorem ok_gt {K : KB} : CmpOk K (rI0 fun i j => V.bl (decide (j < i))) gtD := by
  intro H x y dx dy b h1 h2 hg Q q
  unfold gtD at hg
  split at hg
  · cases hg
    exact ⟨_, _, h1, h2, q⟩
  · cases hg
theorem ok_ge {K : KB} : CmpOk K (rI0 fun i j => V.bl (decide (j ≤ i))) geD := by
  intro H x y dx dy b h1 h2 hg Q q
  unfold geD at hg
  split at hg
  · cases hg
    exact ⟨_, _, h1, h2, q⟩
  · cases hg
theorem ok_eq {K : KB} : CmpOk K (rEqD K) eqD := by
  intro H x y dx dy b h1 h2 hg Q q
  unfold eqD at hg
  split at hg
  · rename_i p1 p2 e1 e2
    split at hg
    · rename_i hs
      cases hg
      rw [Bool.and_eq_true] at hs
      exact ⟨p1, p2, Rep.dp _ _ _ h1 e1, Rep.dp _ _ _ h2 e2, hs.1, hs.2, q⟩
    · cases hg
  · cases hg
@[simp] def neD (a b : D) : Option Bool := (eqD a b).map (!·)
theorem ok_ne {K : KB} : CmpOk K (rNeD K) neD := by
  intro H x y dx dy b h1 h2 hg Q q
  obtain ⟨b', hb, rfl⟩ := Option.map_eq_some_iff.mp hg
  unfold eqD at hb
  split at hb
  · rename_i p1 p2 e1 e2
    split at hb
    · rename_i hs
      cases hb
      rw [Bool.and_eq_true] at hs
      exact ⟨p1, p2, Rep.dp _ _ _ h1 e1, Rep.dp _ _ _ h2 e2, hs.1, hs.2, q⟩
    · cases hb
  · cases hb
/-- x in y -/
def flatD : D → Bool
  | .non => true
  | .bl _ => true
  | .int _ => true
  | .str _ => true
  | _ => false
def toV : D → V
  | .bl b => .bl b
  | .int i => .int i
  | .str x => .str x
  | _ => .non
theorem rep_flat {K : KB} {F : Hp} {d : D} {v : V} (h : Rep K F d v) (f : flatD d = true) : v = toV d ∧ flatV v = true := by
  cases d <;> first | (refine ⟨h, ?_⟩; rw [show v = _ from h]; rfl) | cases f
theorem reps_flat {K : KB} {F : Hp} : ∀ {ds : List D} {xs : List V}, Reps K F ds xs → ds.all flatD = true → xs = ds.map toV ∧ xs.all flatV = true
  | [], xs, h, _ => by rw [show xs = [] from h]; exact ⟨rfl, rfl⟩
  | d :: ds, xs, h, f => by
    obtain ⟨x, r, rfl, h1, h2⟩ := h
    rw [List.all_cons, Bool.and_eq_true] at f
    obtain ⟨e1, f1⟩ := rep_flat h1 f.1
    obtain ⟨e2, f2⟩ := reps_flat h2 f.2
    exact ⟨by rw [List.map_cons, ← e1, ← e2], by rw [List.all_cons, f1, f2]; rfl⟩
def inD : D → D → Option Bool
  | d, .lst ds => match d.py, D.pys ds with
    | some p, some ps => if SeqAt.shaped p && SeqAt.shaped (.list ps) then some (ps.any fun z => PyData.eqv z p) else none
    | _, _ => none
  | d, .scr ds => match d.py, D.pys ds with
    | some p, some ps => if SeqAt.shaped p && SeqAt.shaped (.list ps) then some (ps.any fun z => PyData.eqv z p) else none
    | _, _ => none
  | d, .tup ds => if flatD d && ds.all flatD then some (inV (toV d) (ds.map toV)) else none
  | d, .wtp ds => if flatD d && ds.all flatD then some (inV (toV d) (ds.map toV)) else none
  | .str i, .str j => some (!(Builtin.Str.occurrences j i 0 j.length 1).isEmpty)
  | _, _ => none
def rIn3 (K : KB) : R2 := fun x y H Q => rInD K x y H Q ∨ rIn K false x y H Q ∨ (∃ i j, x = .str i ∧ y = .str j ∧ Q (.bl (!(Builtin.Str.occurrences j i 0 j.length 1).isEmpty)) H)
theorem op_in3 (hu : X.A.units + 65 < cLine) : OpR X (compareOp .In) (rIn3 X.B) := (op_inD hu).or (op_in_seq.or op_in_str)
theorem ok_in {K : KB} : CmpOk K (rIn3 K) inD := by
  intro H x y dx dy b h1 h2 hg Q q
  unfold inD at hg
  split at hg
  · obtain ⟨a, xs, rfl, ha, hr⟩ := id h2
    split at hg
    · rename_i p1 p2 e1 e2
      split at hg
      · rename_i hs
        cases hg
        rw [Bool.and_eq_true] at hs
        exact .inl ⟨p1, p2, Rep.dp _ _ _ h1 e1, .lst (SqL.of ha) (Reps.dp _ _ _ hr e2), hs.1, hs.2, q⟩
      · cases hg
    · cases hg
  · obtain ⟨a, xs, rfl, ha, hr⟩ := id h2
    split at hg
    · rename_i p1 p2 e1 e2
      split at hg
      · rename_i hs
        cases hg
        rw [Bool.and_eq_true] at hs
        exact .inl ⟨p1, p2, Rep.dp _ _ _ h1 e1, .lst ha (Reps.dp _ _ _ hr e2), hs.1, hs.2, q⟩
      · cases hg
    · cases hg
  · obtain ⟨a, xs, rfl, ha, hr⟩ := id h2
    split at hg
    · rename_i hs
      cases hg
      rw [Bool.and_eq_true] at hs
      obtain ⟨e1, f1⟩ := rep_flat h1 hs.1
      obtain ⟨e2, f2⟩ := reps_flat hr hs.2
      refine .inr (.inl ⟨a, xs, rfl, .inr ha, f1, f2, ?_⟩)
      rw [if_neg Bool.false_ne_true, e1, e2]
      exact q
    · cases hg
  · obtain ⟨a, xs, rfl, ha, hr⟩ := id h2
    split at hg
    · rename_i hs
      cases hg
      rw [Bool.and_eq_true] at hs
      obtain ⟨e1, f1⟩ := rep_flat h1 hs.1
      obtain ⟨e2, f2⟩ := reps_flat hr hs.2
      refine .inr (.inl ⟨a, xs, rfl, .inr ha, f1, f2, ?_⟩)
      rw [if_neg Bool.false_ne_true, e1, e2]
      exact q
    · cases hg
  · cases hg
    exact .inr (.inr ⟨_, _, h1, h2, q⟩)
  · cases hg
def rNotIn3 (K : KB) : R2 := fun x y H Q => rNotInD K x y H Q ∨ rIn K true x y H Q ∨ (∃ i j, x = .str i ∧ y = .str j ∧ Q (.bl (!(!(Builtin.Str.occurrences j i 0 j.length 1).isEmpty))) H)
theorem op_notin3 (hu : X.A.units + 65 < cLine) : OpR X (compareOp .NotIn) (rNotIn3 X.B) := (op_notInD hu).or (op_notIn_seq.or op_notin_str)
@[simp] def notinD (a b : D) : Option Bool := (inD a b).map (!·)
theorem ok_notin {K : KB} : CmpOk K (rNotIn3 K) notinD := by
  intro H x y dx dy b h1 h2 hg' Q q
  obtain ⟨b', hg, rfl⟩ := Option.map_eq_some_iff.mp hg'
  unfold inD at hg
  split at hg
  · obtain ⟨a, xs, rfl, ha, hr⟩ := id h2
    split at hg
    · rename_i p1 p2 e1 e2
      split at hg
      · rename_i hs
        cases hg
        rw [Bool.and_eq_true] at hs
        exact .inl ⟨p1, p2, Rep.dp _ _ _ h1 e1, .lst (SqL.of ha) (Reps.dp _ _ _ hr e2), hs.1, hs.2, q⟩
      · cases hg
    · cases hg
  · obtain ⟨a, xs, rfl, ha, hr⟩ := id h2
    split at hg
    · rename_i p1 p2 e1 e2
      split at hg
      · rename_i hs
        cases hg
        rw [Bool.and_eq_true] at hs
        exact .inl ⟨p1, p2, Rep.dp _ _ _ h1 e1, .lst ha (Reps.dp _ _ _ hr e2), hs.1, hs.2, q⟩
      · cases hg
    · cases hg
  · obtain ⟨a, xs, rfl, ha, hr⟩ := id h2
    split at hg
    · rename_i hs
      cases hg
      rw [Bool.and_eq_true] at hs
      obtain ⟨e1, f1⟩ := rep_flat h1 hs.1
      obtain ⟨e2, f2⟩ := reps_flat hr hs.2
      refine .inr (.inl ⟨a, xs, rfl, .inr ha, f1, f2, ?_⟩)
      rw [if_pos rfl, e1, e2]
      exact q
    · cases hg
  · obtain ⟨a, xs, rfl, ha, hr⟩ := id h2
    split at hg
    · rename_i hs
      cases hg
      rw [Bool.and_eq_true] at hs
      obtain ⟨e1, f1⟩ := rep_flat h1 hs.1
      obtain ⟨e2, f2⟩ := reps_flat hr hs.2
      refine .inr (.inl ⟨a, xs, rfl, .inr ha, f1, f2, ?_⟩)
      rw [if_pos rfl, e1, e2]
      exact q
    · cases hg
  · cases hg
    exact .inr (.inr ⟨_, _, h1, h2, q⟩)
  · cases hg
@[simp] def isNoneD (d : D) : Bool := match d with
  | .non => true
  | _ => false
theorem rep_none {K : KB} {F : Hp} {d : D} {v : V} (h : Rep K F d v) (hd : d ≠ .any) : decide (v = .non) = isNoneD d := by
  cases d
  case any => exact absurd rfl hd
  case non => rw [show v = V.non from h]; rfl
  case bl b => rw [show v = V.bl b from h]; rfl
  case int b => rw [show v = V.int b from h]; rfl
  case str b => rw [show v = V.str b from h]; rfl
  case ty b => rw [show v = V.ty b from h]; rfl
  case adr b => rw [show v = V.ref b from h]; rfl
  all_goals
    obtain ⟨a, h⟩ := h
    first
      | (obtain ⟨e, _⟩ := h; rw [e]; rfl)
      | (obtain ⟨xs, e, _⟩ := h; rw [e]; rfl)
      | (obtain ⟨xs, ys, e, _⟩ := h; rw [e]; rfl)
@[simp] def noneD : D → Option D
  | .any => none
  | d => some (.bl (isNoneD d))
@[simp] def notNoneD : D → Option D
  | .any => none
  | d => some (.bl (!isNoneD d))
variable {j : Nat} {p2 : Pos}
theorem di_isN (ha : DV X W a da) : DI X W (.Compare a [.Is] [.Constant .none j p2] pos) (dbind da fun x => dlift (noneD x)) := ⟨pe_weak (pe_cmp (pc_isN ha.run)) fun σ H Q q => by
  obtain ⟨c, F, e, ts, R, q⟩ := q
  refine ⟨c, F, e, ts, R, q.bind (rel := relV) fun F1 H1 e1 x v ef hr q1 => ?_⟩
  obtain ⟨d, hd, k⟩ := q1.lift
  have hx : x ≠ .any := fun z => by subst z; cases hd
  rw [rep_none hr.2 hx]
  have hd' : d = .bl (isNoneD x) := by cases x <;> first | exact absurd rfl hx | (cases hd; rfl)
  subst hd'
  exact k F1 H1 _ (Ex.refl _) (Ex.refl _) ⟨hr.1, rfl⟩⟩
theorem di_notN (ha : DV X W a da) : DI X W (.Compare a [.IsNot] [.Constant .none j p2] pos) (dbind da fun x => dlift (notNoneD x)) := ⟨pe_weak (pe_cmp (pc_notN ha.run)) fun σ H Q q => by
  obtain ⟨c, F, e, ts, R, q⟩ := q
  refine ⟨c, F, e, ts, R, q.bind (rel := relV) fun F1 H1 e1 x v ef hr q1 => ?_⟩
  obtain ⟨d, hd, k⟩ := q1.lift
  have hx : x ≠ .any := fun z => by subst z; cases hd
  rw [rep_none hr.2 hx]
  have hd' : d = .bl (!isNoneD x) := by cases x <;> first | exact absurd rfl hx | (cases hd; rfl)
  subst hd'
  exact k F1 H1 _ (Ex.refl _) (Ex.refl _) ⟨hr.1, rfl⟩⟩
end
end DL

/-! DLG: what is owned, lent to a def; loops over what is owned. -/
namespace DL
open PySem PySem.Spec PyProof.Rows L2 Evl

section
variable {K : KB} {c : Ctx} {F F' H H' : Hp} {σ : L2.St} {e : Env} {ts : List (V × O)}
/-- a slot's holding, out and in again -/
theorem Slots.out : ∀ (e : Env) (σ σ0 : L2.St) (hs : List (V × O)) (i : Nat) {b : Bool} {o : O}, Slots e σ σ0 hs → e[i]? = some (some (b, o)) →
    ∃ v A B, hs = A ++ (v, o) :: B ∧ σ[i]? = some (some v) ∧ (b = true → σ0[i]? = some (some v)) ∧ Slots (e.set i none) σ σ0 (A ++ B)
  | [], σ, σ0, hs, i, b, o, h, he => by simp at he
  | none :: e, σ, σ0, hs, 0, b, o, h, he => by simp at he
  | some q :: e, σ, σ0, hs, 0, b, o, h, he => by
    obtain ⟨v, r, hr, e1, hb, e2, h1⟩ := h
    have eq : q = (b, o) := by simpa using he
    subst eq
    subst e1
    refine ⟨v, [], hr, e2, rfl, fun z => ?_, some v, r, rfl, h1⟩
    have z' := hb z
    cases σ0 with
    | nil => simp at z'
    | cons y ys => simpa using z'
  | none :: e, σ, σ0, hs, i + 1, b, o, h, he => by
    obtain ⟨x, r, e1, h1⟩ := h
    subst e1
    obtain ⟨v, A, B, k1, k2, k3, k4⟩ := Slots.out e r σ0.tail hs i h1 (by simpa using he)
    refine ⟨v, A, B, k1, by simpa using k2, fun z => ?_, x, r, rfl, k4⟩
    have z' := k3 z
    cases σ0 with
    | nil => simp at z'
    | cons y ys => simpa using z'
  | some q :: e, σ, σ0, hs, i + 1, b, o, h, he => by
    obtain ⟨v0, r, hr, e1, hb, e2, h1⟩ := h
    subst e1
    obtain ⟨v, A, B, k1, k2, k3, k4⟩ := Slots.out e r σ0.tail hr i h1 (by simpa using he)
    refine ⟨v, (v0, q.2) :: A, B, by rw [e2, k1]; rfl, by simpa using k2, fun z => ?_, v0, r, A ++ B, rfl, hb, rfl, k4⟩
    have z' := k3 z
    cases σ0 with
    | nil => simp at z'
    | cons y ys => simpa using z'
theorem Slots.inn : ∀ (e : Env) (σ σ0 : L2.St) (hs : List (V × O)) (i : Nat) {b : Bool} {v : V}, Slots e σ σ0 hs → e[i]? = some none → σ[i]? = some (some v) → (b = true → σ0[i]? = some (some v)) →
    ∃ A B, hs = A ++ B ∧ ∀ o, Slots (e.set i (some (b, o))) σ σ0 (A ++ (v, o) :: B)
  | [], σ, σ0, hs, i, b, v, h, he, hv, hb => by simp at he
  | none :: e, σ, σ0, hs, 0, b, v, h, he, hv, hb => by
    obtain ⟨x, r, e1, h1⟩ := h
    subst e1
    have ex : x = some v := by simpa using hv
    subst ex
    exact ⟨[], hs, rfl, fun o => ⟨v, r, hs, rfl, fun z => by
      have z' := hb z
      cases σ0 with
      | nil => simp at z'
      | cons y ys => simpa using z', rfl, h1⟩⟩
  | some q :: e, σ, σ0, hs, 0, b, v, h, he, hv, hb => by simp at he
  | none :: e, σ, σ0, hs, i + 1, b, v, h, he, hv, hb => by
    obtain ⟨x, r, e1, h1⟩ := h
    subst e1
    obtain ⟨A, B, k1, k2⟩ := Slots.inn e r σ0.tail hs i h1 (by simpa using he) (by simpa using hv) (fun z => by
      have z' := hb z
      cases σ0 with
      | nil => simp at z'
      | cons y ys => simpa using z')
    exact ⟨A, B, k1, fun o => ⟨x, r, rfl, k2 o⟩⟩
  | some q :: e, σ, σ0, hs, i + 1, b, v, h, he, hv, hb => by
    obtain ⟨v0, r, hr, e1, hb0, e2, h1⟩ := h
    subst e1
    obtain ⟨A, B, k1, k2⟩ := Slots.inn e r σ0.tail hr i h1 (by simpa using he) (by simpa using hv) (fun z => by
      have z' := hb z
      cases σ0 with
      | nil => simp at z'
      | cons y ys => simpa using z')
    exact ⟨(v0, q.2) :: A, B, by rw [e2, k1]; rfl, fun o => ⟨v0, r, _, rfl, hb0, rfl, k2 o⟩⟩
theorem perm_out {α : Type} (a b c d : List α) : (b ++ (a ++ (c ++ d))).Perm (a ++ (c ++ (b ++ d))) := by
  rw [show b ++ (a ++ (c ++ d)) = (b ++ (a ++ c)) ++ d by simp, show a ++ (c ++ (b ++ d)) = ((a ++ c) ++ b) ++ d by simp]
  exact List.Perm.append_right d List.perm_append_comm
theorem RE.out {i : Nat} {b : Bool} {o : O} (R : RE K c F H σ e ts) (h : e[i]? = some (some (b, o))) : ∃ v, σ[i]? = some (some v) ∧ (b = true → c.σ0[i]? = some (some v)) ∧ RE K c F H σ (e.set i none) ((v, o) :: ts) := by
  obtain ⟨hs, fs, h1, h2, h3, h4⟩ := R.hd
  obtain ⟨v, A, B, k1, k2, k3, k4⟩ := Slots.out e σ c.σ0 hs i h1 h
  subst k1
  obtain ⟨f1, f2, e1, h5, h6⟩ := h2.split
  obtain ⟨f3, f4, e2, h7, h8⟩ := h6.split
  obtain ⟨f5, f6, e3, h9, h10⟩ := h8
  subst e3
  subst e2
  subst e1
  have hp := perm_out f1 f5 f3 f6
  refine ⟨v, k2, k3, R.g, R.f0, R.fh, R.nw, A ++ B, f5 ++ (f1 ++ (f3 ++ f6)), k4, ⟨f5, _, rfl, h9, Held.join h5 (Held.join h7 h10)⟩, hp.nodup_iff.mpr h3, fun p hp2 => h4 p (hp.mem_iff.mp hp2)⟩
theorem RE.inn {i : Nat} {b : Bool} {o : O} {v : V} (R : RE K c F H σ e ((v, o) :: ts)) (h : e[i]? = some none) (hv : σ[i]? = some (some v)) (hb : b = true → c.σ0[i]? = some (some v)) : RE K c F H σ (e.set i (some (b, o))) ts := by
  obtain ⟨hs, fs, h1, h2, h3, h4⟩ := R.hd
  obtain ⟨A, B, k1, k2⟩ := Slots.inn e σ c.σ0 hs i h1 h hv hb
  subst k1
  obtain ⟨f5, fr, e1, h9, hr⟩ := h2
  obtain ⟨f1, f2, e2, h5, h6⟩ := Held.split (A := ts) (B := A ++ B) hr
  obtain ⟨f3, f6, e3, h7, h10⟩ := h6.split
  subst e3
  subst e2
  subst e1
  have hp := perm_out f1 f5 f3 f6
  refine ⟨R.g, R.f0, R.fh, R.nw, _, f1 ++ (f3 ++ (f5 ++ f6)), k2 o, Held.join h5 (Held.join h7 ⟨f5, f6, rfl, h9, h10⟩), hp.nodup_iff.mp h3, fun p hp2 => h4 p (hp.mem_iff.mpr hp2)⟩
/-- a slot is emptied -/
theorem RE.clear {i : Nat} {b : Bool} {o : O} (R : RE K c F H σ e ts) (h : e[i]? = some (some (b, o))) : RE K c F H σ (e.set i none) ts := by
  obtain ⟨v, _, _, R'⟩ := R.out h
  exact R'.drop
theorem held_ims : ∀ {os : List O} {vs : List V} {fs : List Addr}, (∀ o ∈ os, ∃ d, o = O.im d) → Held K F H (vs.zip os) fs → fs = []
  | [], vs, fs, k, h => by cases vs <;> exact h
  | o :: os, [], fs, k, h => h
  | o :: os, v :: vs, fs, k, h => by
    obtain ⟨d, rfl⟩ := k o List.mem_cons_self
    obtain ⟨f1, f2, e1, h1, h2⟩ := h
    rw [e1, h1.1, held_ims (fun o ho => k o (List.mem_cons_of_mem _ ho)) h2]
    rfl
/-- what a def is handed stands ahead of the temporaries -/
theorem RE.callee {n : Nat} {f : FDen} {vs : List V} {os : List O} {r : FRes} {Q : VK} {E : XK} (R : RE K c F H σ e (vs.zip os ++ ts)) (hv : vs.length = n) (ho : os.length = n) (hf : f os = some r)
    (post : match r with
      | .ok m os' rv => ∀ F' H' v, Ex F F' → (m = false ∨ (∀ o ∈ os, ∃ d, o = O.im d) → Ex H H') → RE K c F' H' σ e (frvs rv v ++ vs.zip os' ++ ts) → FRep K F' rv v → Q v H'
      | .err m os' x => ∀ F' H' cls d, Ex F F' → (m = false ∨ (∀ o ∈ os, ∃ d, o = O.im d) → Ex H H') → RE K c F' H' σ e (vs.zip os' ++ ts) → XRel K F' H' x cls d → E cls d H') : spD K n f vs H Q E := by
  obtain ⟨hs, fs, h1, h2, h3, h4⟩ := R.hd
  rw [List.append_assoc] at h2
  obtain ⟨f1, f2, e1, h5, h6⟩ := h2.split
  subst e1
  obtain ⟨n1, n2, n3⟩ := List.nodup_append.mp h3
  have th2 : ∀ p ∈ f2, H p ≠ none := Held.there h6
  have none1 : (∀ o ∈ os, ∃ d, o = O.im d) → f1 = [] := fun k => held_ims k h5
  have whole : ∀ {H' : Hp} {m : Bool}, (m = false → Ex H H') → (∀ p u, p ∉ f1 → H p = some u → H' p = some u) → (m = false ∨ (∀ o ∈ os, ∃ d, o = O.im d) → Ex H H') := fun eh keep z => by
    rcases z with z | z
    · exact eh z
    · have e0 := none1 z
      exact fun p u q => keep p u (by rw [e0]; exact fun w => nomatch w) q
  have core : ∀ {F' H' : Hp} {L : List (V × O)} {fs' : List Addr}, Ex F F' → Ex F' H' → (∀ p u, p ∉ f1 → H p = some u → H' p = some u) → (∀ p, F' p ≠ none → F p ≠ none ∨ H p = none ∨ p ∈ f1) → Held K F' H' L fs' → fs'.Nodup → (∀ p ∈ fs', F' p = none ∧ (p ∈ f1 ∨ H p = none)) →
      RE K c F' H' σ e (L ++ ts) := by
    intro F' H' L fs' ef fh keep nw hh nd hfs
    have out2 : ∀ p ∈ f2, p ∉ f1 := fun p hp hp1 => n3 p hp1 p hp rfl
    refine ⟨fun p u z => keep p u (fun hp => ?_) (R.g p u z), R.f0.trans ef, fh, fun p hp => ?_, hs, fs' ++ f2, h1, ?_, List.nodup_append.mpr ⟨nd, n2, fun a ha b hb z => ?_⟩, fun p hp => ?_⟩
    · rw [(h4 p (List.mem_append_left _ hp)).2] at z
      cases z
    · rcases nw p hp with z | z | z
      · exact R.nw p z
      · exact .inr (none_of_ex R.g z)
      · exact .inr (h4 p (List.mem_append_left _ z)).2
    · rw [List.append_assoc]
      exact Held.join hh (Held.mono ef (fun p hp u z => keep p u (out2 p hp) z) h6)
    · subst z
      rcases (hfs a ha).2 with z | z
      · exact out2 a hb z
      · exact th2 a hb z
    · rcases List.mem_append.mp hp with z | z
      · refine ⟨(hfs p z).1, ?_⟩
        rcases (hfs p z).2 with w | w
        · exact (h4 p (List.mem_append_left _ w)).2
        · exact none_of_ex R.g w
      · obtain ⟨q1, q2⟩ := h4 p (List.mem_append_right _ z)
        refine ⟨?_, q2⟩
        cases q : F' p with
        | none => rfl
        | some u =>
          rcases nw p (by rw [q]; simp) with w | w | w
          · exact absurd q1 w
          · exact absurd w (th2 p z)
          · exact absurd w (out2 p z)
  refine ⟨hv, F, os, f1, r, ho, h5, n1, fun p hp => (h4 p (List.mem_append_left _ hp)).1, R.fh, hf, ?_⟩
  cases r with
  | ok m os' rv =>
    intro F' H' v fs' ef fh eh keep nw hrep hh nd hfs
    exact post F' H' v ef (whole eh keep) (core ef fh keep nw hh nd hfs) hrep
  | err m os' x =>
    intro F' H' cls d fs' ef fh eh keep nw hx hh nd hfs
    exact post F' H' cls d ef (whole eh keep) (core ef fh keep nw hh nd hfs) hx
end

/-! ### arguments: frozen ones, lent slots -/
inductive AR where
  | im (d : D) | bor (i : Nat)
def ARel (K : KB) (F : Hp) (σ : L2.St) : List AR → List V → Prop
  | [], vs => vs = []
  | .im d :: as, vs => ∃ v r, vs = v :: r ∧ Rep K F d v ∧ ARel K F σ as r
  | .bor i :: as, vs => ∃ v r, vs = v :: r ∧ σ[i]? = some (some v) ∧ ARel K F σ as r
def relAR : Rel (List AR) (List V) := fun K c F H σ e ts as vs => RE K c F H σ e ts ∧ ARel K F σ as vs
theorem ARel.mono {K : KB} {F F' : Hp} {σ : L2.St} (ef : Ex F F') : ∀ {as : List AR} {vs : List V}, ARel K F σ as vs → ARel K F' σ as vs
  | [], vs, h => h
  | .im d :: as, vs, h => by
    obtain ⟨v, r, e1, h1, h2⟩ := h
    exact ⟨v, r, e1, Rep.mono ef _ _ h1, ARel.mono ef h2⟩
  | .bor i :: as, vs, h => by
    obtain ⟨v, r, e1, h1, h2⟩ := h
    exact ⟨v, r, e1, h1, ARel.mono ef h2⟩
theorem ARel.length {K : KB} {F : Hp} {σ : L2.St} : ∀ {as : List AR} {vs : List V}, ARel K F σ as vs → vs.length = as.length
  | [], vs, h => by rw [show vs = [] from h]; rfl
  | .im d :: as, vs, h => by
    obtain ⟨v, r, rfl, h1, h2⟩ := h
    rw [List.length_cons, List.length_cons, ARel.length h2]
  | .bor i :: as, vs, h => by
    obtain ⟨v, r, rfl, h1, h2⟩ := h
    rw [List.length_cons, List.length_cons, ARel.length h2]
/-- what the def is handed; the slots that are lent are empty meanwhile -/
def lend : List AR → Env → Option (List O × List (Option (Nat × Bool)) × Env)
  | [], e => some ([], [], e)
  | .im d :: as, e => (lend as e).map fun r => (.im d :: r.1, none :: r.2.1, r.2.2)
  | .bor i :: as, e => match lend as e with
    | some r => match r.2.2[i]? with
      | some (some (b, o)) => some (o :: r.1, some (i, b) :: r.2.1, r.2.2.set i none)
      | _ => none
    | none => none
def unlend : List (Option (Nat × Bool)) → List O → Env → Option Env
  | [], [], e => some e
  | none :: ks, _ :: os, e => unlend ks os e
  | some (i, b) :: ks, o :: os, e => match e[i]? with
    | some none => unlend ks os (e.set i (some (b, o)))
    | _ => none
  | _, _, _ => none
section
variable {K : KB} {c : Ctx} {F F' H H' : Hp} {σ : L2.St}
/-- the slots that are lent stand for what is at hand -/
def Lent (c : Ctx) (σ : L2.St) : List (Option (Nat × Bool)) → List V → Prop
  | [], vs => vs = []
  | none :: ks, vs => ∃ v r, vs = v :: r ∧ Lent c σ ks r
  | some (i, b) :: ks, vs => ∃ v r, vs = v :: r ∧ σ[i]? = some (some v) ∧ (b = true → c.σ0[i]? = some (some v)) ∧ Lent c σ ks r
theorem RE.lend {ts : List (V × O)} : ∀ {as : List AR} {vs : List V} {e : Env} {os : List O} {ks : List (Option (Nat × Bool))} {e' : Env}, RE K c F H σ e ts → ARel K F σ as vs → DL.lend as e = some (os, ks, e') →
    RE K c F H σ e' (vs.zip os ++ ts) ∧ os.length = as.length ∧ Lent c σ ks vs
  | [], vs, e, os, ks, e', R, h, hl => by
    cases hl
    rw [show vs = [] from h]
    exact ⟨R, rfl, rfl⟩
  | .im d :: as, vs, e, os, ks, e', R, h, hl => by
    obtain ⟨v, r, rfl, h1, h2⟩ := h
    obtain ⟨q, hq, e1⟩ := Option.map_eq_some_iff.mp hl
    obtain ⟨os1, ks1, e2⟩ := q
    cases e1
    obtain ⟨R1, l1, k1⟩ := RE.lend R h2 hq
    refine ⟨?_, by rw [List.length_cons, List.length_cons, l1], v, r, rfl, k1⟩
    obtain ⟨hs, fs, a1, a2, a3, a4⟩ := R1.hd
    exact ⟨R1.g, R1.f0, R1.fh, R1.nw, hs, fs, a1, ⟨[], fs, rfl, ⟨rfl, h1⟩, a2⟩, a3, a4⟩
  | .bor i :: as, vs, e, os, ks, e', R, h, hl => by
    obtain ⟨v, r, rfl, h1, h2⟩ := h
    unfold DL.lend at hl
    cases hq : DL.lend as e with
    | none => rw [hq] at hl; cases hl
    | some q =>
      rw [hq] at hl
      obtain ⟨os1, ks1, e2⟩ := q
      obtain ⟨R1, l1, k1⟩ := RE.lend R h2 hq
      dsimp only at hl
      cases hi : e2[i]? with
      | none => rw [hi] at hl; cases hl
      | some s =>
        rw [hi] at hl
        cases s with
        | none => cases hl
        | some s =>
          obtain ⟨b, o⟩ := s
          cases hl
          obtain ⟨w, hw, hb, R2⟩ := R1.out hi
          rw [h1] at hw
          cases hw
          exact ⟨R2, by rw [List.length_cons, List.length_cons, l1], v, r, rfl, h1, hb, k1⟩
theorem RE.unlend {ts : List (V × O)} : ∀ {ks : List (Option (Nat × Bool))} {vs : List V} {os : List O} {e e' : Env}, RE K c F H σ e (vs.zip os ++ ts) → Lent c σ ks vs → DL.unlend ks os e = some e' → RE K c F H σ e' ts
  | [], vs, [], e, e', R, h, hu => by
    cases hu
    rw [show vs = [] from h] at R
    exact R
  | none :: ks, vs, o :: os, e, e', R, h, hu => by
    obtain ⟨v, r, rfl, h1⟩ := h
    exact RE.unlend (RE.drop (t := (v, o)) R) h1 hu
  | some (i, b) :: ks, vs, o :: os, e, e', R, h, hu => by
    obtain ⟨v, r, rfl, h1, hb, h2⟩ := h
    unfold DL.unlend at hu
    cases hi : e[i]? with
    | none => rw [hi] at hu; cases hu
    | some s =>
      rw [hi] at hu
      cases s with
      | some s => cases hu
      | none => exact RE.unlend (RE.inn (v := v) (o := o) R hi h1 hb) h2 hu
  | [], vs, o :: os, e, e', R, h, hu => by cases hu
  | none :: ks, vs, [], e, e', R, h, hu => by cases hu
  | some (i, b) :: ks, vs, [], e, e', R, h, hu => by cases hu
/-- temporaries change places -/
theorem RE.perm {e : Env} {ts ts' : List (V × O)} (R : RE K c F H σ e ts) (p : ts.Perm ts') : RE K c F H σ e ts' := by
  obtain ⟨hs, fs, h1, h2, h3, h4⟩ := R.hd
  have key : ∀ {A B : List (V × O)}, A.Perm B → ∀ {fs : List Addr}, Held K F H A fs → ∃ fs', Held K F H B fs' ∧ fs.Perm fs' := by
    intro A B p
    induction p with
    | nil => intro fs h; exact ⟨fs, h, .refl _⟩
    | cons x _ ih =>
      intro fs h
      obtain ⟨f1, f2, e1, a1, a2⟩ := h
      obtain ⟨f3, b1, b2⟩ := ih a2
      exact ⟨f1 ++ f3, ⟨f1, f3, rfl, a1, b1⟩, by rw [e1]; exact List.Perm.append_left f1 b2⟩
    | swap x y l =>
      intro fs h
      obtain ⟨f1, f2, e1, a1, f3, f4, e2, a2, a3⟩ := h
      refine ⟨f3 ++ (f1 ++ f4), ⟨f3, _, rfl, a2, f1, f4, rfl, a1, a3⟩, ?_⟩
      rw [e1, e2, ← List.append_assoc, ← List.append_assoc]
      exact List.Perm.append_right f4 List.perm_append_comm
    | trans _ _ ih1 ih2 =>
      intro fs h
      obtain ⟨f1, a1, a2⟩ := ih1 h
      obtain ⟨f2, b1, b2⟩ := ih2 a1
      exact ⟨f2, b1, a2.trans b2⟩
  obtain ⟨fs', k1, k2⟩ := key (List.Perm.append_right hs p) h2
  exact ⟨R.g, R.f0, R.fh, R.nw, hs, fs', h1, k1, k2.nodup_iff.mp h3, fun p hp => h4 p (k2.mem_iff.mpr hp)⟩
end
/-- frozen all -/
@[simp] def allIm : List O → Bool
  | [] => true
  | .im _ :: os => allIm os
  | _ => false
theorem allIm_ok : ∀ {os : List O}, allIm os = true → ∀ o ∈ os, ∃ d, o = O.im d
  | [], _, o, ho => by cases ho
  | .im d :: os, h, o, ho => by
    rcases List.mem_cons.mp ho with e | ho
    · exact ⟨d, e⟩
    · exact allIm_ok (os := os) h o ho
  | .lst _ :: _, h, _, _ => by cases h
  | .tup _ :: _, h, _, _ => by cases h
  | .dct _ _ :: _, h, _, _ => by cases h
  | .ins _ _ _ :: _, h, _, _ => by cases h
/-- a called def, of any arguments -/
def dfnA (n : Nat) (f : FDen) (as : List AR) : Den Rv := fun e => if as.length = n then (match lend as e with
  | some (os, ks, e1) => match f os with
    | some (.ok m os' (.im d)) => (unlend ks os' e1).map fun e2 => .ok (m && !allIm os) e2 (.im d)
    | some (.ok m os' (.new o)) => (unlend ks os' e1).map fun e2 => .ok (m && !allIm os) e2 (.new o)
    | some (.err m os' x) => (unlend ks os' e1).map fun e2 => .err (m && !allIm os) e2 x
    | none => none
  | none => none) else none
theorem and_allIm {m : Bool} {os : List O} (h : (m && !allIm os) = false) : m = false ∨ ∀ o ∈ os, ∃ d, o = O.im d := by
  cases m with
  | false => exact .inl rfl
  | true =>
    refine .inr (allIm_ok ?_)
    cases q : allIm os with
    | true => rfl
    | false => rw [q] at h; cases h
theorem spD_ofA {K : KB} {c : Ctx} {F H : Hp} {σ : L2.St} {e : Env} {ts : List (V × O)} {W : WX} {n : Nat} {f : FDen} {as : List AR} {vs : List V} {Q : VK} (R : RE K c F H σ e ts) (hr : ARel K F σ as vs) (q : At relR K W (dfnA n f as) c F σ e ts H Q) :
    spD K n f vs H Q (fun cls d H' => W cls d σ H') := by
  obtain ⟨r, hr2, post⟩ := q
  unfold dfnA at hr2
  split at hr2
  · rename_i hn
    cases hl : lend as e with
    | none => rw [hl] at hr2; cases hr2
    | some q =>
      rw [hl] at hr2
      obtain ⟨os, ks, e1⟩ := q
      obtain ⟨R1, l1, k1⟩ := R.lend hr hl
      dsimp only at hr2
      cases hf : f os with
      | none => rw [hf] at hr2; cases hr2
      | some fr =>
        rw [hf] at hr2
        refine R1.callee (hr.length.trans hn) (l1.trans hn) hf ?_
        cases fr with
        | ok m os' rv =>
          intro F' H' v ef eh R2 hrep
          cases rv with
          | im d =>
            obtain ⟨e2, hu, e3⟩ := Option.map_eq_some_iff.mp hr2
            subst e3
            exact post F' H' v ef (fun z => eh (and_allIm z)) ⟨RE.unlend R2 k1 hu, hrep⟩
          | new o =>
            obtain ⟨e2, hu, e3⟩ := Option.map_eq_some_iff.mp hr2
            subst e3
            have R3 : RE K c F' H' σ e1 (vs.zip os' ++ ((v, o) :: ts)) := R2.perm (by
              show ((v, o) :: (vs.zip os' ++ ts)).Perm _
              exact (List.perm_middle).symm)
            exact post F' H' v ef (fun z => eh (and_allIm z)) (RE.unlend R3 k1 hu)
        | err m os' x =>
          intro F' H' cls d ef eh R2 hx
          obtain ⟨e2, hu, e3⟩ := Option.map_eq_some_iff.mp hr2
          subst e3
          exact post F' H' cls d ef (fun z => eh (and_allIm z)) (RE.unlend R2 k1 hu) hx
  · cases hr2
section
variable {X : Cx} {W : WX} {a : Expr} {es : List Expr} {pos p : Pos} {x : Str} {k : Nat} {f C : Addr} {fd : FuncData} {ps : List Str} {fn : FDen}
structure DAR (X : Cx) (W : WX) (es : List Expr) (den : Den (List AR)) : Prop where
  run : PA X es (rd relAR X.B W den)
theorem dar_nil : DAR X W [] (dpure []) := ⟨pa_weak pa_nil fun σ H Q q => by
  obtain ⟨c, F, e, ts, R, q⟩ := q
  exact At.pure q F H [] (Ex.refl _) (Ex.refl _) ⟨R, rfl⟩⟩
def darg (r : Rv) : AR := match r with
  | .im d => .im d
  | .new o => .im o.flat
  | .bor i _ => .bor i
def darcons (d : Den Rv) (ds : Den (List AR)) : Den (List AR) := dbind d fun x => dbind ds fun xs => dpure (darg x :: xs)
theorem dar_cons {da : Den Rv} {ds : Den (List AR)} (h : DE X W a da) (hr : DAR X W es ds) (hs : starEach (a :: es) X.env = (false, eval a X.env) :: starEach es X.env := by rfl) : DAR X W (a :: es) (darcons da ds) :=
  ⟨pa_weak (pa_cons h.run hr.run hs) fun σ H Q q => by
    obtain ⟨c, F, e, ts, R, q⟩ := q
    refine ⟨c, F, e, ts, R, q.bind (rel := relR) fun F1 H1 e1 x v ef hr q1 => ?_⟩
    cases x with
    | im d =>
      refine ⟨c, F1, e1, ts, hr.1, q1.bind (rel := relAR) fun F2 H2 e2 y u ef2 hr2 q2 => ?_⟩
      exact At.pure q2 F2 H2 (v :: u) (Ex.refl _) (Ex.refl _) ⟨hr2.1, v, u, rfl, Rep.mono ef2 _ _ hr.2, hr2.2⟩
    | new o =>
      obtain ⟨F3, e3, R3, h3⟩ := RE.freezeT hr
      have q1' : At relAR X.B W (dbind ds fun xs => dpure (darg (.new o) :: xs)) c F3 σ e1 ts H1 Q := by
        obtain ⟨r, hr4, post⟩ := q1
        refine ⟨r, hr4, ?_⟩
        cases r with
        | ok m e5 a => exact fun F' H' v' ef' eh hrel => post F' H' v' (e3.trans ef') eh hrel
        | err m e5 x => exact fun F' H' cls d ef' eh R hx => post F' H' cls d (e3.trans ef') eh R hx
      refine ⟨c, F3, e1, ts, R3, q1'.bind (rel := relAR) fun F2 H2 e2 y u ef2 hr2 q2 => ?_⟩
      exact At.pure q2 F2 H2 (v :: u) (Ex.refl _) (Ex.refl _) ⟨hr2.1, v, u, rfl, Rep.mono ef2 _ _ h3, hr2.2⟩
    | bor i o =>
      refine ⟨c, F1, e1, ts, hr.1, q1.bind (rel := relAR) fun F2 H2 e2 y u ef2 hr2 q2 => ?_⟩
      exact At.pure q2 F2 H2 (v :: u) (Ex.refl _) (Ex.refl _) ⟨hr2.1, v, u, rfl, hr.2.1, hr2.2⟩⟩
/-- f(a, ..) -/
theorem de_call {n : Nat} {ds : Den (List AR)} (Fn : FnOk X.prog X.w X.B X.mg X.base (L2.CX X.prog X.w) k f fd ps (spD X.B n fn)) (tk : Takes X W) (hr : Room k X.A) (hg : Gl X x) (hm : X.mg x = some (.ref f)) (hk : PySem.W.keepIn X.B (.ref f) = true) (hb : Binds X.B fd ps [])
    (ha : DAR X W (a :: es) ds) (hdb : (x == ("__debug__" : Str)) = false := by decide) (he : starEach (a :: es) X.env = (false, eval a X.env) :: starEach es X.env := by rfl) (hpl : (backTo pos (starEach es X.env)).any (·.1) = false := by rfl) :
    DE X W (.Call (.Name x p) (a :: es) [] pos) (dbind ds fun as => dfnA n fn as) := ⟨pe_weak (pe_callS Fn hr hg hm hk hb (fun σ => passAt tk σ) ha.run hdb he hpl) fun σ H Q q => by
  obtain ⟨c, F, e, ts, R, q⟩ := q
  refine ⟨c, F, e, ts, R, q.bind (rel := relAR) fun F1 H1 e1 dl v ef hr1 q1 => ?_⟩
  exact spD_ofA hr1.1 hr1.2 q1⟩
end
end DL

/-! DLH: loops. -/
namespace DL
open PySem PySem.Spec PyProof.Rows L2 Evl

section
variable {X : Cx} {tg : Expr}
/-- what is walked may be a list or a tuple -/
def iSeq (K : KB) (tl : TE) : TI := fun σ H R => tl σ H fun x H1 => ∃ a, x = .ref a ∧ (((∃ xs, SqL K H1 a xs) ∧ R (Itl K a) H1) ∨ ((∃ xs, SqT K H1 a xs) ∧ R (Itt K a) H1))
theorem pi_seq {l : Expr} {tl : TE} (hl : PE X l tl) : PI X tg l (iSeq X.B tl) := by
  refine ⟨fun pins s σ H R I h => ?_⟩
  refine thn (hl.run pins s σ H _ I h) fun v s1 ⟨x, H1, I1, r1, q1⟩ => ?_
  obtain ⟨a, e, q⟩ := q1
  subst e
  cases r1
  rcases q with ⟨⟨xs, hq⟩, q⟩ | ⟨⟨xs, hq⟩, q⟩
  · obtain ⟨its, rv, p, hz⟩ := I1.list hq
    refine wpAny_pyIter_list p.isList ?_
    refine ⟨s1.heap.objs.size, [s1.heap.objs.size], _, _, H1, rfl, I1.kept (t' := s1.toks) fun b o e => Heap.get?_push_of_some _ e, turn_list a _, ⟨_, Heap.get?_push_size _ rfl, rfl, rfl⟩, fun b hb => ?_, q⟩
    have e : b = s1.heap.objs.size := by simpa using hb
    subst e
    exact I1.fpOk (Nat.le_refl _) (I1.hok.fresh (Nat.le_refl _))
  · obtain ⟨its, rv, p, hz⟩ := I1.tuple hq
    refine wpAny_pyIter_tuple (show s1.heap.IsTuple a its.toArray from p) ?_
    refine ⟨s1.heap.objs.size, [s1.heap.objs.size], _, _, H1, rfl, I1.kept (t' := s1.toks) fun b o e => Heap.get?_push_of_some _ e, turn_tuple a _, ⟨_, Heap.get?_push_size _ rfl, rfl, rfl⟩, fun b hb => ?_, q⟩
    have e : b = s1.heap.objs.size := by simpa using hb
    subst e
    exact I1.fpOk (Nat.le_refl _) (I1.hok.fresh (Nat.le_refl _))
end
/-- a loop's turn, then the rest -/
def sturn (r : Option SRes) (rest : SDen) : Option SRes := match r with
  | some (.nx m e) => SRes.more m (rest e)
  | some (.ct m e) => SRes.more m (rest e)
  | some (.bk m e) => some (.nx m e)
  | some (.rt m e v) => some (.rt m e v)
  | some (.er m e x) => some (.er m e x)
  | none => none
def sloop (bind : D → Env → Option Env) (body : SDen) : List D → SDen
  | [] => snext
  | d :: ds => fun e => match bind d e with
    | some e1 => sturn (body e1) (sloop bind body ds)
    | none => none
section
variable {K : KB} {W : WX} {c : Ctx} {F H : Hp} {σ : L2.St} {e : Env} {ts : List (V × O)}
theorem AtS.turn {b rest : SDen} {D : Ends} {N : L2.St → Hp → Prop} (h : ∃ r, sturn (b e) rest = some r ∧ PostS K W D c F ts H r)
    (k : ∀ F1 H1 σ1 e1, Ex F F1 → RE K c F1 H1 σ1 e1 ts → AtS K W rest D c F1 σ1 e1 ts H1 → N σ1 H1) : AtS K W b { D with nx := N, ct := N, bk := D.nx } c F σ e ts H := by
  obtain ⟨r, hr, post⟩ := h
  cases hd : b e with
  | none => rw [hd] at hr; cases hr
  | some r1 =>
    rw [hd] at hr
    refine ⟨r1, hd, ?_⟩
    cases r1 with
    | nx m e1 => exact fun F1 H1 σ1 ef eh R => k F1 H1 σ1 e1 ef R (AtS.more hr ef eh post)
    | ct m e1 => exact fun F1 H1 σ1 ef eh R => k F1 H1 σ1 e1 ef R (AtS.more hr ef eh post)
    | bk m e1 => cases hr; exact post
    | rt m e1 v => cases hr; exact post
    | er m e1 x => cases hr; exact post
/-- what an iterator walks: P says what stands there -/
structure Src (J : It) (P : List V → Hp → Prop) : Prop where
  go : ∀ i xs H, P xs H → i < xs.length → J.go i H
  stop : ∀ i xs H, P xs H → xs.length ≤ i → J.stop i H
  yld : ∀ i xs H x H', P xs H → i < xs.length → J.yld i H x H' → H' = H ∧ xs[i]? = some x
theorem src_list {a : Addr} : Src (Itl K a) (fun xs H => SqL K H a xs) where
  go := fun i xs H h hi => ⟨xs, xs[i], h, List.getElem?_eq_getElem hi⟩
  stop := fun i xs H h hi => ⟨xs, h, hi⟩
  yld := fun i xs H x H' h _ hy => ⟨hy.1, hy.2 xs h⟩
theorem src_tup {a : Addr} : Src (Itt K a) (fun xs H => SqT K H a xs) where
  go := fun i xs H h hi => ⟨xs, xs[i], h, List.getElem?_eq_getElem hi⟩
  stop := fun i xs H h hi => ⟨xs, h, hi⟩
  yld := fun i xs H x H' h _ hy => ⟨hy.1, hy.2 xs h⟩
/-- the loop -/
theorem loop_ok {X : Cx} {J : It} {P : List V → Hp → Prop} (S : Src J P) {bind : D → Env → Option Env} {sl : List Nat} {body : SDen} {ds : List D} {D0 : Ends} (hP : ∀ F' H' σ' e', Ex F F' → RE X.B c F' H' σ' e' ts → ∃ xs, P xs H' ∧ Reps X.B F' ds xs) (R : RE X.B c F H σ e ts)
    (h : AtS X.B W (sloop bind body ds) D0 c F σ e ts H) :
    ∃ Wv : Nat → Nat → L2.St → Hp → Prop, (∃ m, Wv 0 m σ H) ∧ ∀ i m σ H, Wv i m σ H → (J.stop i H ∧ D0.nx σ H) ∨ (J.go i H ∧ ∃ N : L2.St → Hp → Prop, (∀ σ' H', N σ' H' → ∃ m', m' < m ∧ Wv (i + 1) m' σ' H') ∧
      ∀ x H', J.yld i H x H' → tgR X.B bind sl x σ H' fun σ2 H2 => rdS X.B W body { D0 with nx := N, ct := N, bk := D0.nx } σ2 H2) := by
  refine ⟨fun i m σ H => ∃ F1 e1, Ex F F1 ∧ RE X.B c F1 H σ e1 ts ∧ AtS X.B W (sloop bind body (ds.drop i)) D0 c F1 σ e1 ts H ∧ m + i = ds.length, ⟨ds.length, F, e, Ex.refl _, R, h, by omega⟩, ?_⟩
  rintro i m σ1 H1 ⟨F1, e1, ef, R1, h1, hm⟩
  obtain ⟨xs, p1, hr⟩ := hP F1 H1 σ1 e1 ef R1
  have hlen := hr.length
  by_cases hi : i < xs.length
  · refine .inr ⟨S.go i xs H1 p1 hi, fun σ' H' => ∃ F2 e2, Ex F F2 ∧ RE X.B c F2 H' σ' e2 ts ∧ AtS X.B W (sloop bind body (ds.drop (i + 1))) D0 c F2 σ' e2 ts H', ?_, ?_⟩
    · rintro σ' H' ⟨F2, e2, ef2, R2, h2⟩
      exact ⟨m - 1, by omega, F2, e2, ef2, R2, h2, by omega⟩
    · intro x H' hy
      obtain ⟨rfl, hx⟩ := S.yld i xs H1 x H' p1 hi hy
      obtain ⟨d, hd, hrep⟩ := hr.getV i hx
      have hdrop : ds.drop i = d :: ds.drop (i + 1) := by
        have hl : i < ds.length := by omega
        rw [List.drop_eq_getElem_cons hl]
        have := (List.getElem?_eq_some_iff.mp hd).2
        rw [this]
      rw [hdrop] at h1
      obtain ⟨r, hr2, post⟩ := h1
      unfold sloop at hr2
      cases hb : bind d e1 with
      | none => rw [hb] at hr2; cases hr2
      | some e2 =>
        rw [hb] at hr2
        refine ⟨c, F1, e1, ts, d, e2, R1, hrep, hb, fun σ' R' _ => ⟨c, F1, e2, ts, R', ?_⟩⟩
        exact AtS.turn ⟨r, hr2, post⟩ fun F3 H3 σ3 e3 ef3 R3 h3 => ⟨F3, e3, ef.trans ef3, R3, h3⟩
  · refine .inl ⟨S.stop i xs H1 p1 (by omega), ?_⟩
    have hdrop : ds.drop i = [] := List.drop_eq_nil_of_le (by omega)
    rw [hdrop] at h1
    exact AtS.next h1 R1
/-- what is pinned -/
def pins (e : Env) : List Bool := e.map fun s => match s with
  | some (true, _) => true
  | _ => false
theorem pins_get {e e' : Env} (h : pins e = pins e') {j : Nat} {o : O} (hj : e[j]? = some (some (true, o))) : ∃ o', e'[j]? = some (some (true, o')) := by
  have h1 : (pins e)[j]? = some true := by unfold pins; rw [List.getElem?_map, hj]; rfl
  rw [h] at h1
  unfold pins at h1
  rw [List.getElem?_map] at h1
  cases q : e'[j]? with
  | none => rw [q] at h1; cases h1
  | some s =>
    rw [q] at h1
    cases s with
    | none => cases h1
    | some s =>
      obtain ⟨b, o'⟩ := s
      cases b with
      | false => cases h1
      | true => exact ⟨o', rfl⟩
theorem Slots.repin : ∀ {e : Env} {σ τ τ' : L2.St} {hs : List (V × O)}, Slots e σ τ hs → (∀ (j : Nat) (v : V) (o : O), e[j]? = some (some (true, o)) → σ[j]? = some (some v) → τ'[j]? = some (some v)) → Slots e σ τ' hs
  | [], σ, τ, τ', hs, h, k => h
  | none :: e, σ, τ, τ', hs, h, k => by
    obtain ⟨x, r, e1, h1⟩ := h
    subst e1
    refine ⟨x, r, rfl, Slots.repin h1 fun j v o hj hv => ?_⟩
    have := k (j + 1) v o (by simpa using hj) (by simpa using hv)
    cases τ' with
    | nil => simp at this
    | cons y ys => simpa using this
  | some q :: e, σ, τ, τ', hs, h, k => by
    obtain ⟨v, r, hr, e1, hb, e2, h1⟩ := h
    subst e1
    refine ⟨v, r, hr, rfl, fun z => ?_, e2, Slots.repin h1 fun j w o hj hv => ?_⟩
    · have := k 0 v q.2 (by rw [show q = (q.1, q.2) from rfl, z]; rfl) rfl
      cases τ' with
      | nil => simp at this
      | cons y ys => simpa using this
    · have := k (j + 1) w o (by simpa using hj) (by simpa using hv)
      cases τ' with
      | nil => simp at this
      | cons y ys => simpa using this
theorem RE.repin {τ' : L2.St} (R : RE K c F H σ e ts) (k : ∀ (j : Nat) (v : V) (o : O), e[j]? = some (some (true, o)) → σ[j]? = some (some v) → τ'[j]? = some (some v)) : RE K { c with σ0 := τ' } F H σ e ts := by
  obtain ⟨hs, fs, h1, h2, h3, h4⟩ := R.hd
  exact ⟨R.g, R.f0, R.fh, R.nw, hs, fs, h1.repin k, h2, h3, h4⟩
/-- a slot lent to what follows: nothing is known of it, it is not stored to -/
def slend (i : Nat) (d : SDen) : SDen := fun e => match e[i]? with
  | some (some (b, o)) =>
    let e0 := e.set i (some (true, .im .any))
    let back : Env → Option Env := fun e' => if pins e' = pins e0 then (match e'[i]? with
      | some (some (true, _)) => some (e'.set i (some (b, o)))
      | _ => none) else none
    match d e0 with
    | some (.nx m e') => (back e').map fun e2 => SRes.nx m e2
    | some (.rt m e' (.im x)) => (back e').map fun e2 => SRes.rt m e2 (.im x)
    | some (.rt m e' (.new x)) => (back e').map fun e2 => SRes.rt m e2 (.new x)
    | some (.rt m e' (.bor j x)) => if j = i then none else (back e').map fun e2 => SRes.rt m e2 (.bor j x)
    | some (.er m e' x) => (back e').map fun e2 => SRes.er m e2 x
    | _ => none
  | _ => none
theorem AtS.lend {i : Nat} {d : SDen} {D0 : Ends} (h : AtS K W (slend i d) D0 c F σ e ts H) (R : RE K c F H σ e ts) : ∃ b o v, e[i]? = some (some (b, o)) ∧ σ[i]? = some (some v) ∧
    RE K { c with σ0 := σ } F H σ (e.set i (some (true, .im .any))) ((v, o) :: ts) ∧ AtS K W d D0 { c with σ0 := σ } F σ (e.set i (some (true, .im .any))) ((v, o) :: ts) H := by
  obtain ⟨r, hr, post⟩ := h
  unfold slend at hr
  cases he : e[i]? with
  | none => rw [he] at hr; cases hr
  | some s =>
    rw [he] at hr
    cases s with
    | none => cases hr
    | some s =>
      obtain ⟨b, o⟩ := s
      obtain ⟨v, hv, hb, R1⟩ := R.out he
      have hi : i < e.length := (List.getElem?_eq_some_iff.mp he).1
      have hnone : (e.set i none)[i]? = some none := List.getElem?_set_self hi
      have R2 : RE K { c with σ0 := σ } F H σ (e.set i none) ((v, o) :: ts) := R1.repin fun j w o' _ hw => hw
      have R3 : RE K { c with σ0 := σ } F H σ (e.set i (some (true, .im .any))) ((v, o) :: ts) := by
        have R4 : RE K { c with σ0 := σ } F H σ (e.set i none) ((v, .im .any) :: (v, o) :: ts) := by
          obtain ⟨hs, fs, a1, a2, a3, a4⟩ := R2.hd
          exact ⟨R2.g, R2.f0, R2.fh, R2.nw, hs, fs, a1, ⟨[], fs, rfl, ⟨rfl, True.intro⟩, a2⟩, a3, a4⟩
        have := R4.inn (b := true) hnone hv (fun _ => hv)
        rwa [List.set_set] at this
      refine ⟨b, o, v, rfl, hv, R3, ?_⟩
      dsimp only at hr
      -- back again
      have back : ∀ {F' H' : Hp} {σ' : L2.St} {e' e2 : Env} {tt : List (V × O)}, (if pins e' = pins (e.set i (some (true, .im .any))) then (match e'[i]? with
            | some (some (true, _)) => some (e'.set i (some (b, o)))
            | _ => none) else none) = some e2 → RE K { c with σ0 := σ } F' H' σ' e' ((v, o) :: tt) → RE K c F' H' σ' e2 tt ∧ ∀ j, j ≠ i → e2[j]? = e'[j]? := by
        intro F' H' σ' e' e2 tt hbk R'
        split at hbk
        · rename_i hp
          split at hbk
          · rename_i o1 hi1
            cases hbk
            obtain ⟨w, hw, hw2, R5⟩ := R'.out hi1
            have ew : w = v := by
              have := hw2 rfl
              dsimp only at this
              rw [hv] at this
              cases this
              rfl
            subst ew
            have R6 : RE K { c with σ0 := σ } F' H' σ' (e'.set i none) ((w, o) :: tt) := R5.drop
            have R7 : RE K c F' H' σ' (e'.set i none) ((w, o) :: tt) := by
              refine R6.repin (τ' := c.σ0) fun j u o' hj hu => ?_
              have hji : j ≠ i := fun z => by
                subst z
                rw [List.getElem?_set_self (List.getElem?_eq_some_iff.mp hi1).1] at hj
                cases hj
              rw [List.getElem?_set_ne (Ne.symm hji)] at hj
              obtain ⟨o2, ho2⟩ := pins_get hp hj
              have ho3 := ho2
              rw [List.getElem?_set_ne (Ne.symm hji)] at ho3
              obtain ⟨y, hy, hy2, _⟩ := R.out ho3
              obtain ⟨z, hz, hz2, _⟩ := R'.out hj
              have e1 := hz2 rfl
              dsimp only at e1
              rw [hu] at hz
              cases hz
              rw [hy] at e1
              cases e1
              exact hy2 rfl
            have hn2 : (e'.set i none)[i]? = some none := List.getElem?_set_self (List.getElem?_eq_some_iff.mp hi1).1
            have := R7.inn (b := b) hn2 hw hb
            rw [List.set_set] at this
            exact ⟨this, fun j hj => List.getElem?_set_ne (Ne.symm hj)⟩
          · cases hbk
        · cases hbk
      cases hd : d (e.set i (some (true, .im .any))) with
      | none => rw [hd] at hr; cases hr
      | some r1 =>
        rw [hd] at hr
        refine ⟨r1, hd, ?_⟩
        cases r1 with
        | nx m e1 =>
          obtain ⟨e2, hb2, e3⟩ := Option.map_eq_some_iff.mp hr
          subst e3
          exact fun F' H' σ' ef eh R' => post F' H' σ' ef eh (back hb2 R').1
        | rt m e1 rv =>
          cases rv with
          | im x =>
            obtain ⟨e2, hb2, e3⟩ := Option.map_eq_some_iff.mp hr
            subst e3
            exact fun F' H' σ' w ef eh R' => post F' H' σ' w ef eh ⟨(back hb2 R'.1).1, R'.2⟩
          | new x =>
            obtain ⟨e2, hb2, e3⟩ := Option.map_eq_some_iff.mp hr
            subst e3
            exact fun F' H' σ' w ef eh R' => post F' H' σ' w ef eh (back hb2 (RE.perm (ts' := (v, o) :: (w, x) :: ts) R' (List.Perm.swap _ _ _))).1
          | bor j x =>
            dsimp only at hr
            split at hr
            · cases hr
            · rename_i hj
              obtain ⟨e2, hb2, e3⟩ := Option.map_eq_some_iff.mp hr
              subst e3
              exact fun F' H' σ' w ef eh R' => post F' H' σ' w ef eh ⟨(back hb2 R'.1).1, R'.2.1, by
                rw [(back hb2 R'.1).2 j hj]
                exact R'.2.2⟩
        | bk m e1 => cases hr
        | ct m e1 => cases hr
        | er m e1 x =>
          obtain ⟨e2, hb2, e3⟩ := Option.map_eq_some_iff.mp hr
          subst e3
          exact fun F' H' σ' cls d ef eh R' hx => post F' H' σ' cls d ef eh (back hb2 R').1 hx
end
/-- the items of what is frozen; of what is owned, where all are frozen -/
@[simp] def seqD : D → Option (List D)
  | .tup ds => some ds
  | .wtp ds => some ds
  | .lst ds => some ds
  | .scr ds => some ds
  | _ => none
@[simp] def ims : List O → Option (List D)
  | [] => some []
  | .im d :: os => (ims os).map fun ds => d :: ds
  | _ :: _ => none
theorem ims_eq : ∀ {os : List O} {ds : List D}, ims os = some ds → os = ds.map O.im
  | [], ds, h => by cases h; rfl
  | .im d :: os, ds, h => by
    obtain ⟨r, hr, e⟩ := Option.map_eq_some_iff.mp h
    subst e
    rw [List.map_cons, ← ims_eq hr]
  | .lst _ :: _, ds, h => by cases h
  | .tup _ :: _, ds, h => by cases h
  | .dct _ _ :: _, ds, h => by cases h
  | .ins _ _ _ :: _, ds, h => by cases h
@[simp] def seqO : O → Option (List D)
  | .lst os => ims os
  | .tup os => ims os
  | _ => none
def sfor (it : Den Rv) (bind : D → Env → Option Env) (body : SDen) : SDen := sbind it fun rv e => match rv with
  | .im d => match seqD d with
    | some ds => sloop bind body ds e
    | none => none
  | .new o => match seqD o.flat with
    | some ds => sloop bind body ds e
    | none => none
  | .bor i _ => match e[i]? with
    | some (some (_, o)) => match seqO o with
      | some ds => slend i (sloop bind body ds) e
      | none => none
    | _ => none
section
variable {X : Cx} {W : WX} {tg iter : Expr} {body : List Stmt} {pos : Pos} {it : Den Rv} {bind : D → Env → Option Env} {sl : List Nat} {db : SDen}
theorem seq_src {K : KB} {F : Hp} {d : D} {ds : List D} {v : V} (h : Rep K F d v) (hs : seqD d = some ds) : ∃ a xs, v = .ref a ∧ Reps K F ds xs ∧ ((SqL K F a xs) ∨ (SqT K F a xs)) := by
  cases d with
  | tup es => cases hs; obtain ⟨a, xs, e1, h1, h2⟩ := h; exact ⟨a, xs, e1, h2, .inr (h1)⟩
  | wtp es => cases hs; obtain ⟨a, xs, e1, h1, h2⟩ := h; exact ⟨a, xs, e1, h2, .inr h1⟩
  | lst es => cases hs; obtain ⟨a, xs, e1, h1, h2⟩ := h; exact ⟨a, xs, e1, h2, .inl (SqL.of h1)⟩
  | scr es => cases hs; obtain ⟨a, xs, e1, h1, h2⟩ := h; exact ⟨a, xs, e1, h2, .inl h1⟩
  | _ => cases hs
theorem ds_for (hp : PassesOwn (model X.prog X.w) X.A X.env X.xe) (hc : X.calm = true) (hi : DE X W iter it) (hg : DG X tg bind sl) (hb : DSs X W body db) (hs : ∀ x, foldedSetIterable iter X.env x = pure x := by intro _; rfl) :
    DS X W (.For tg iter body [] pos) (sfor it bind db) := ⟨ps_weak (ps_for hp hc (pi_seq hi.run) hg.run hb.run hs) fun D0 σ H q => by
  obtain ⟨c, F, e, ts, R, q⟩ := q
  refine ⟨c, F, e, ts, R, q.sbind (rel := relR) fun F1 H1 e1 rv v ef hr q1 => ?_⟩
  -- frozen
  have fz : ∀ {F2 : Hp} {d : D} {ds : List D}, RE X.B c F2 H1 σ e1 ts → Rep X.B F2 d v → seqD d = some ds → AtS X.B W (sloop bind db ds) D0 c F2 σ e1 ts H1 → ∃ a, v = .ref a ∧
      (((∃ xs, SqL X.B H1 a xs) ∧ (fun J H1 => ∃ Wv : Nat → Nat → L2.St → Hp → Prop, (∃ m, Wv 0 m σ H1) ∧ ∀ i m σ H, Wv i m σ H → (J.stop i H ∧ D0.nx σ H) ∨ (J.go i H ∧ ∃ N : L2.St → Hp → Prop, (∀ σ' H', N σ' H' → ∃ m', m' < m ∧ Wv (i + 1) m' σ' H') ∧
        ∀ x H', J.yld i H x H' → tgR X.B bind sl x σ H' fun σ2 H2 => rdS X.B W db { D0 with nx := N, ct := N, bk := D0.nx } σ2 H2)) (Itl X.B a) H1) ∨
      ((∃ xs, SqT X.B H1 a xs) ∧ (fun J H1 => ∃ Wv : Nat → Nat → L2.St → Hp → Prop, (∃ m, Wv 0 m σ H1) ∧ ∀ i m σ H, Wv i m σ H → (J.stop i H ∧ D0.nx σ H) ∨ (J.go i H ∧ ∃ N : L2.St → Hp → Prop, (∀ σ' H', N σ' H' → ∃ m', m' < m ∧ Wv (i + 1) m' σ' H') ∧
        ∀ x H', J.yld i H x H' → tgR X.B bind sl x σ H' fun σ2 H2 => rdS X.B W db { D0 with nx := N, ct := N, bk := D0.nx } σ2 H2)) (Itt X.B a) H1)) := by
    intro F2 d ds R2 hrep hsq h2
    obtain ⟨a, xs, rfl, hrs, hsrc⟩ := seq_src hrep hsq
    refine ⟨a, rfl, ?_⟩
    rcases hsrc with hsrc | hsrc
    · exact .inl ⟨⟨xs, ex_l R2.fh hsrc⟩, loop_ok src_list (fun F' H' σ' e' ef' R' => ⟨xs, ex_l (ef'.trans R'.fh) hsrc, Reps.mono ef' _ _ hrs⟩) R2 h2⟩
    · exact .inr ⟨⟨xs, ex_t R2.fh hsrc⟩, loop_ok src_tup (fun F' H' σ' e' ef' R' => ⟨xs, ex_t (ef'.trans R'.fh) hsrc, Reps.mono ef' _ _ hrs⟩) R2 h2⟩
  obtain ⟨r, hr2, post⟩ := q1
  cases rv with
  | im d =>
    dsimp only at hr2
    cases hsq : seqD d with
    | none => rw [hsq] at hr2; cases hr2
    | some ds =>
      rw [hsq] at hr2
      exact fz hr.1 hr.2 hsq ⟨r, hr2, post⟩
  | new o =>
    dsimp only at hr2
    cases hsq : seqD o.flat with
    | none => rw [hsq] at hr2; cases hr2
    | some ds =>
      rw [hsq] at hr2
      obtain ⟨F3, e3, R3, h3⟩ := RE.freezeT hr
      refine fz R3 h3 hsq ⟨r, hr2, ?_⟩
      cases r with
      | nx m e5 => exact fun F' H' σ' ef' eh R' => post F' H' σ' (e3.trans ef') eh R'
      | rt m e5 rv => exact fun F' H' σ' v' ef' eh R' => post F' H' σ' v' (e3.trans ef') eh R'
      | bk m e5 => exact fun F' H' σ' ef' eh R' => post F' H' σ' (e3.trans ef') eh R'
      | ct m e5 => exact fun F' H' σ' ef' eh R' => post F' H' σ' (e3.trans ef') eh R'
      | er m e5 x => exact fun F' H' σ' cls d ef' eh R' hx => post F' H' σ' cls d (e3.trans ef') eh R' hx
  | bor i o0 =>
    dsimp only at hr2
    cases hi1 : e1[i]? with
    | none => rw [hi1] at hr2; cases hr2
    | some s =>
      rw [hi1] at hr2
      cases s with
      | none => cases hr2
      | some s =>
        obtain ⟨b, o⟩ := s
        dsimp only at hr2
        cases hsq : seqO o with
        | none => rw [hsq] at hr2; cases hr2
        | some ds =>
          rw [hsq] at hr2
          obtain ⟨b', o', v', hb', hv', R3, h3⟩ := AtS.lend ⟨r, hr2, post⟩ hr.1
          rw [hi1] at hb'
          cases hb'
          rw [hr.2.1] at hv'
          cases hv'
          obtain ⟨fs, hown⟩ := R3.temp
          cases o with
          | lst os =>
            have eo := ims_eq hsq
            subst eo
            obtain ⟨a, xs, rr, rfl, _, ha, hos⟩ := hown
            exact ⟨a, rfl, .inl ⟨⟨xs, SqL.of ha⟩, loop_ok src_list (fun F' H' σ' e' ef' R' => by
              obtain ⟨fs', a', xs', rr', e1, _, ha', hos'⟩ := R'.temp
              cases e1
              exact ⟨xs', SqL.of ha', (of_owns_im hos').1⟩) R3 h3⟩⟩
          | tup os =>
            have eo := ims_eq hsq
            subst eo
            obtain ⟨a, xs, rr, rfl, _, ha, hos⟩ := hown
            exact ⟨a, rfl, .inr ⟨⟨xs, SqT.of ha⟩, loop_ok src_tup (fun F' H' σ' e' ef' R' => by
              obtain ⟨fs', a', xs', rr', e1, _, ha', hos'⟩ := R'.temp
              cases e1
              exact ⟨xs', SqT.of ha', (of_owns_im hos').1⟩) R3 h3⟩⟩
          | _ => cases hsq⟩
end
end DL

/-! DLI: ranges, while, lists that grow, items, fields. -/
namespace DL
open PySem PySem.Spec PyProof.Rows L2 Evl

def rangeD (lo : Int) (n : Nat) : List D := (List.range n).map fun (i : Nat) => D.int (lo + (i : Int))
@[simp] def rng1D : List D → Option (List D)
  | [.int n] => if -(2 ^ 62) ≤ n ∧ n < 2 ^ 62 then some (rangeD 0 n.toNat) else none
  | _ => none
@[simp] def rng2D : List D → Option (List D)
  | [.int a, .int b] => if -(2 ^ 62) ≤ a ∧ a < 2 ^ 62 ∧ -(2 ^ 62) ≤ b ∧ b < 2 ^ 62 then some (rangeD a (b - a).toNat) else none
  | _ => none
theorem reps_range {K : KB} {F : Hp} {lo : Int} {n : Nat} : Reps K F (rangeD lo n) ((List.range n).map fun (i : Nat) => V.int (lo + (i : Int))) := by
  unfold rangeD
  have key : ∀ l : List Nat, Reps K F (l.map fun (i : Nat) => D.int (lo + (i : Int))) (l.map fun (i : Nat) => V.int (lo + (i : Int))) := by
    intro l
    induction l with
    | nil => exact rfl
    | cons a l ih => exact ⟨_, _, rfl, rfl, ih⟩
  exact key _
theorem src_range {lo : Int} {n : Nat} : Src (Itr lo n) (fun xs _ => xs = (List.range n).map fun (i : Nat) => V.int (lo + (i : Int))) where
  go := fun i xs H h hi => by
    subst h
    show i < n
    simpa using hi
  stop := fun i xs H h hi => by
    subst h
    show n ≤ i
    simpa using hi
  yld := fun i xs H x H' h hi hy => by
    subst h
    obtain ⟨e1, e2⟩ := (show H' = H ∧ x = .int (lo + i) from hy)
    refine ⟨e1, ?_⟩
    have hi' : i < n := by simpa using hi
    rw [List.getElem?_map, List.getElem?_range hi', e2]
    rfl
def sforR (g : List D → Option (List D)) (as : Den (List D)) (bind : D → Env → Option Env) (body : SDen) : SDen := sbind as fun vs => match g vs with
  | some ds => sloop bind body ds
  | none => fun _ => none
section
variable {X : Cx} {W : WX} {tg : Expr} {body : List Stmt} {pos p p2 : Pos} {as : Den (List D)} {bind : D → Env → Option Env} {sl : List Nat} {db : SDen} {a b : Expr}
theorem reps_int {K : KB} {F : Hp} {i : Int} {vs : List V} (h : Reps K F [.int i] vs) : vs = [.int i] := by
  obtain ⟨x, r, rfl, h1, h2⟩ := h
  rw [show x = V.int i from h1, show r = [] from h2]
theorem reps_int2 {K : KB} {F : Hp} {i j : Int} {vs : List V} (h : Reps K F [.int i, .int j] vs) : vs = [.int i, .int j] := by
  obtain ⟨x, r, rfl, h1, h2⟩ := h
  rw [show x = V.int i from h1, reps_int h2]
theorem rng1_case {vs : List D} {ds : List D} (h : rng1D vs = some ds) : ∃ n : Int, vs = [.int n] ∧ -(2 ^ 62) ≤ n ∧ n < 2 ^ 62 ∧ ds = rangeD 0 n.toNat := by
  unfold rng1D at h
  split at h
  · split at h
    · rename_i n hz
      cases h
      exact ⟨n, rfl, hz.1, hz.2, rfl⟩
    · cases h
  · cases h
theorem rng2_case {vs : List D} {ds : List D} (h : rng2D vs = some ds) : ∃ a b : Int, vs = [.int a, .int b] ∧ (-(2 ^ 62) ≤ a ∧ a < 2 ^ 62 ∧ -(2 ^ 62) ≤ b ∧ b < 2 ^ 62) ∧ ds = rangeD a (b - a).toNat := by
  unfold rng2D at h
  split at h
  · split at h
    · rename_i a b hz
      cases h
      exact ⟨a, b, rfl, hz, rfl⟩
    · cases h
  · cases h
theorem ds_forR1 (hp : PassesOwn (model X.prog X.w) X.A X.env X.xe) (hc : X.calm = true) (hgl : Gl X "range") (hm : X.mg "range" = none) (ha : DA X W [a] as) (hg : DG X tg bind sl) (hb : DSs X W body db)
    (hs0 : starEach [a] X.env = [(false, eval a X.env)] := by rfl) (hs : ∀ x, foldedSetIterable (.Call (.Name "range" p) [a] [] p2) X.env x = pure x := by intro _; rfl) : DS X W (.For tg (.Call (.Name "range" p) [a] [] p2) body [] pos) (sforR rng1D as bind db) :=
  ⟨ps_weak (ps_for hp hc (pi_range1 hgl hm ha.run hs0) hg.run hb.run hs) fun D0 σ H q => by
    obtain ⟨c, F, e, ts, R, q⟩ := q
    refine ⟨c, F, e, ts, R, q.sbind (rel := relA) fun F1 H1 e1 vs v ef hr q1 => ?_⟩
    cases hq : rng1D vs with
    | none =>
      rw [hq] at q1
      obtain ⟨r, hr2, _⟩ := q1
      cases hr2
    | some ds =>
      rw [hq] at q1
      obtain ⟨n, rfl, b1, b2, rfl⟩ := rng1_case hq
      have ev := reps_int hr.2
      subst ev
      exact ⟨n, rfl, b1, b2, loop_ok src_range (fun F' H' σ' e' ef' R' => ⟨_, rfl, reps_range⟩) hr.1 q1⟩⟩
theorem ds_forR2 (hp : PassesOwn (model X.prog X.w) X.A X.env X.xe) (hc : X.calm = true) (hgl : Gl X "range") (hm : X.mg "range" = none) (ha : DA X W [a, b] as) (hg : DG X tg bind sl) (hb : DSs X W body db)
    (hs0 : starEach [a, b] X.env = [(false, eval a X.env), (false, eval b X.env)] := by rfl) (hs1 : starEach [b] X.env = [(false, eval b X.env)] := by rfl) (hs : ∀ x, foldedSetIterable (.Call (.Name "range" p) [a, b] [] p2) X.env x = pure x := by intro _; rfl) :
    DS X W (.For tg (.Call (.Name "range" p) [a, b] [] p2) body [] pos) (sforR rng2D as bind db) :=
  ⟨ps_weak (ps_for hp hc (pi_range2 hgl hm ha.run hs0 hs1) hg.run hb.run hs) fun D0 σ H q => by
    obtain ⟨c, F, e, ts, R, q⟩ := q
    refine ⟨c, F, e, ts, R, q.sbind (rel := relA) fun F1 H1 e1 vs v ef hr q1 => ?_⟩
    cases hq : rng2D vs with
    | none =>
      rw [hq] at q1
      obtain ⟨r, hr2, _⟩ := q1
      cases hr2
    | some ds =>
      rw [hq] at q1
      obtain ⟨a', b', rfl, hz, rfl⟩ := rng2_case hq
      have ev := reps_int2 hr.2
      subst ev
      exact ⟨a', b', rfl, hz, loop_ok src_range (fun F' H' σ' e' ef' R' => ⟨_, rfl, reps_range⟩) hr.1 q1⟩⟩

/-! ### while -/
def swhile (t : Den Bool) (b : SDen) : Nat → SDen
  | 0 => fun _ => none
  | n + 1 => sbind t fun k => if k then (fun e => sturn (b e) (swhile t b n)) else snext
theorem ds_while {t : Expr} {dt : Den Bool} (n : Nat) (hp : PassesOwn (model X.prog X.w) X.A X.env X.xe) (h : DT X W t dt) (hb : DSs X W body db) : DS X W (.While t body [] pos) (swhile dt db n) := ⟨ps_weak (ps_while hp h.run hb.run) fun D0 σ H q => by
  obtain ⟨c, F, e, ts, R, q⟩ := q
  refine ⟨fun m σ H => ∃ F1 e1, RE X.B c F1 H σ e1 ts ∧ AtS X.B W (swhile dt db m) D0 c F1 σ e1 ts H, ⟨n, F, e, R, q⟩, ?_⟩
  rintro m σ1 H1 ⟨F1, e1, R1, q1⟩
  cases m with
  | zero =>
    obtain ⟨r, hr, _⟩ := q1
    cases hr
  | succ m =>
    refine ⟨c, F1, e1, ts, R1, AtS.sbind (rel := relB) (f := fun k => if k then (fun e => sturn (db e) (swhile dt db m)) else snext) q1 fun F2 H2 e2 k v ef hr q2 => ?_⟩
    obtain ⟨R2, rfl⟩ := hr
    cases k with
    | true =>
      refine iteT ⟨fun σ' H' => ∃ F3 e3, RE X.B c F3 H' σ' e3 ts ∧ AtS X.B W (swhile dt db m) D0 c F3 σ' e3 ts H', fun σ' H' hw => ⟨m, Nat.lt_succ_self m, hw⟩, c, F2, e2, ts, R2, ?_⟩
      obtain ⟨r, hr2, post⟩ := q2
      exact AtS.turn ⟨r, hr2, post⟩ fun F3 H3 σ3 e3 ef3 R3 h3 => ⟨F3, e3, R3, h3⟩
    | false => exact iteF (AtS.next q2 R2)⟩

/-! ### a value as a temporary -/
def relO : Rel O V := fun K c F H σ e ts o v => RE K c F H σ e ((v, o) :: ts)
def rvO (rv : Rv) : Den O := fun e => match rv with
  | .im d => some (.ok false e (.im d))
  | .new o => some (.ok false e o)
  | .bor i _ => match e[i]? with
    | some (some (b, o)) => some (.ok false (e.set i (some (b, .im o.flat))) (.im o.flat))
    | _ => none
theorem RE.imT {K : KB} {c : Ctx} {F H : Hp} {σ : L2.St} {e : Env} {ts : List (V × O)} {d : D} {v : V} (R : RE K c F H σ e ts) (h : Rep K F d v) : RE K c F H σ e ((v, .im d) :: ts) := by
  obtain ⟨hs, fs, a1, a2, a3, a4⟩ := R.hd
  exact ⟨R.g, R.f0, R.fh, R.nw, hs, fs, a1, ⟨[], fs, rfl, ⟨rfl, h⟩, a2⟩, a3, a4⟩
/-- an expression's value, then a statement's rest, with the value as a temporary -/
theorem AtS.tmp {K : KB} {c : Ctx} {F H : Hp} {σ : L2.St} {e : Env} {ts : List (V × O)} {D0 : Ends} {de : Den Rv} {f : O → SDen} {Q' : V → Hp → Prop} (h : AtS K W (DL.sbind de fun rv => DL.sbind (rvO rv) f) D0 c F σ e ts H)
    (k : ∀ F1 H1 e1 o v, Ex F F1 → RE K c F1 H1 σ e1 ((v, o) :: ts) → AtS K W (f o) D0 c F1 σ e1 ts H1 → Q' v H1) : At relR K W de c F σ e ts H Q' := by
  refine h.sbind (rel := relR) fun F1 H1 e1 rv v ef hr q1 => ?_
  -- the inner step changes no heap
  have step : ∀ {F2 : Hp} {e2 : Env} {o : O}, rvO rv e1 = some (.ok false e2 o) → Ex F1 F2 → RE K c F2 H1 σ e2 ((v, o) :: ts) → Q' v H1 := by
    intro F2 e2 o h2 ef2 R2
    obtain ⟨r, hr2, post⟩ := q1
    unfold DL.sbind at hr2
    rw [h2] at hr2
    exact k F2 H1 e2 o v (ef.trans ef2) R2 (AtS.more hr2 ef2 (fun _ => Ex.refl _) post)
  cases rv with
  | im d => exact step rfl (Ex.refl _) (hr.1.imT hr.2)
  | new o => exact step rfl (Ex.refl _) hr
  | bor i o =>
    obtain ⟨R1, hv, b, hb⟩ := hr
    obtain ⟨F2, w, e2, hw, R2, hrep⟩ := R1.freezeS hb
    rw [hv] at hw
    cases hw
    refine step (F2 := F2) (e2 := e1.set i (some (b, .im o.flat))) (o := .im o.flat) ?_ e2 (R2.imT hrep)
    unfold rvO
    dsimp only
    rw [hb]
/-- a temporary is laid into a list that is another one -/
theorem RE.push {K : KB} {c : Ctx} {F H : Hp} {σ : L2.St} {e : Env} {ts : List (V × O)} {os : List O} {o : O} {vl v : V} (R : RE K c F H σ e ((vl, .lst os) :: (v, o) :: ts)) :
    ∃ l xs, vl = .ref l ∧ H l = some (.lst xs) ∧ os.length = xs.length ∧ RE K c F (upd H l (.lst (xs ++ [v]))) σ e ((vl, .lst (os ++ [o])) :: ts) := by
  obtain ⟨hs, fs, h1, h2, h3, h4⟩ := R.hd
  obtain ⟨f1, f2, e1, h5, f3, f4, e2, h6, h7⟩ := h2
  obtain ⟨l, xs, r, el, e3, hl, hos⟩ := h5
  subst e3
  subst e2
  subst e1
  refine ⟨l, xs, el, hl, hos.length, ?_⟩
  obtain ⟨q1, q2, q3⟩ := List.nodup_append.mp h3
  obtain ⟨q4, q5⟩ := List.nodup_cons.mp q1
  have lf : F l = none ∧ c.G l = none := h4 l (List.mem_append_left _ List.mem_cons_self)
  have kp : ∀ p, p ≠ l → ∀ u, H p = some u → upd H l (.lst (xs ++ [v])) p = some u := fun p hp u z => by rw [upd_ne hp]; exact z
  have nl : ∀ p, p ∈ r ∨ p ∈ f3 ++ f4 → p ≠ l := fun p hp z => by
    subst z
    rcases hp with hp | hp
    · exact q4 hp
    · exact q3 p List.mem_cons_self p hp rfl
  refine ⟨fun p u z => ?_, R.f0, fun p u z => ?_, R.nw, hs, (l :: (r ++ f3)) ++ f4, h1, ⟨l :: (r ++ f3), f4, rfl, ⟨l, xs ++ [v], r ++ f3, el, rfl, upd_same, ?_⟩, Held.mono (Ex.refl _) (fun p hp => kp p (nl p (.inr (List.mem_append_right _ hp)))) h7⟩, ?_, fun p hp => h4 p ?_⟩
  · have hp : p ≠ l := fun w => by
      subst w
      rw [lf.2] at z
      cases z
    exact kp p hp u (R.g p u z)
  · have hp : p ≠ l := fun w => by
      subst w
      rw [lf.1] at z
      cases z
    exact kp p hp u (R.fh p u z)
  · refine Owns.append (Owns.mono (Ex.refl _) _ _ _ (fun p hp => kp p (nl p (.inl hp))) hos) ?_
    exact ⟨v, [], f3, [], rfl, (List.append_nil _).symm, Own.mono (Ex.refl _) _ _ _ (fun p hp => kp p (nl p (.inr (List.mem_append_left _ hp)))) h6, rfl, rfl⟩
  · have : (l :: (r ++ f3)) ++ f4 = (l :: r) ++ (f3 ++ f4) := by simp
    rw [this]
    exact h3
  · have : (l :: (r ++ f3)) ++ f4 = (l :: r) ++ (f3 ++ f4) := by simp
    rw [this] at hp
    exact hp
/-- x.append(e) -/
def sapp (i : Nat) (de : Den Rv) : SDen := fun e0 => match e0[i]? with
  | some (some (_, .lst _)) => sbind de (fun rv => sbind (rvO rv) fun o e => match e[i]? with
    | some (some (b, .lst os)) => if os.length < sizeLine then some (.nx true (e.set i (some (b, .lst (os ++ [o]))))) else none
    | _ => none) e0
  | _ => none
theorem ds_app {i : Nat} {x : Str} {de : Den Rv} {apos px : Pos} (hx : PE X (.Name x px) (tVar i)) (h : DE X W a de)
    (hpe : ∀ {t : TA}, PA X [a] t → PE X (.Call (.Attribute (.Name x px) "append" apos) [a] [] p) (tBM X.B "list" rAppend (tVar i) t))
    (hs0 : starEach (a :: []) X.env = (false, eval a X.env) :: starEach [] X.env := by rfl) (hs : swapsWith (.Call (.Attribute (.Name x px) "append" apos) [a] [] p) none pos.line X.env = pure false := by rfl) :
    DS X W (.Expr (.Call (.Attribute (.Name x px) "append" apos) [a] [] p) pos) (sapp i de) :=
  ⟨ps_weak (ps_expr (hpe (pa_cons h.run pa_nil hs0)) hs) fun D0 σ H q => by
    obtain ⟨c, F, e, ts, R, r, hr, post⟩ := q
    unfold sapp at hr
    cases he : e[i]? with
    | none => rw [he] at hr; cases hr
    | some s =>
      rw [he] at hr
      cases s with
      | none => cases hr
      | some s =>
        obtain ⟨b, o⟩ := s
        cases o with
        | lst os =>
          obtain ⟨v, fs, hv, l, xs, rr, ev, _, hl, _⟩ := R.slot he
          subst ev
          refine ⟨.ref l, hv, .inl ⟨rfl, xs, SqL.of hl⟩, c, F, e, ts, R, ?_⟩
          have q0 : AtS X.B W (sbind de (fun rv => sbind (rvO rv) fun o e => match e[i]? with
            | some (some (b, .lst os)) => if os.length < sizeLine then some (.nx true (e.set i (some (b, .lst (os ++ [o]))))) else none
            | _ => none)) D0 c F σ e ts H := ⟨r, hr, post⟩
          refine q0.tmp fun F1 H1 e1 o v ef R1 q1 => ?_
          obtain ⟨r1, hr1, post1⟩ := q1
          dsimp only at hr1
          cases he1 : e1[i]? with
          | none => rw [he1] at hr1; cases hr1
          | some s =>
            rw [he1] at hr1
            cases s with
            | none => cases hr1
            | some s =>
              obtain ⟨b1, o1⟩ := s
              cases o1 with
              | lst os1 =>
                dsimp only at hr1
                split at hr1
                · rename_i hz
                  cases hr1
                  obtain ⟨vl, hvl, hb1, R2⟩ := R1.out he1
                  rw [hv] at hvl
                  cases hvl
                  obtain ⟨l', xs1, e3, hl1, hlen, R3⟩ := R2.push
                  cases e3
                  refine ⟨l, xs1, v, rfl, rfl, hl1, by rw [← hlen]; exact hz, ?_⟩
                  have hn : (e1.set i none)[i]? = some none := List.getElem?_set_self (List.getElem?_eq_some_iff.mp he1).1
                  have R4 := R3.inn (b := b1) hn hv hb1
                  rw [List.set_set] at R4
                  exact post1 F1 _ σ (Ex.refl _) (fun z => by cases z) R4
                · cases hr1
              | _ => cases hr1
        | _ => cases hr⟩
end
end DL

/-! DLJ: sources that are walked; list comprehensions. -/
namespace DL
open PySem PySem.Spec PyProof.Rows L2 Evl

/-- an iterator over frozen things -/
def relJ : Rel (List D) It := fun K c F H σ e ts ds J => RE K c F H σ e ts ∧ ∃ P, Src J P ∧ ∀ F' H', Ex F F' → Ex F' H' → ∃ xs, P xs H' ∧ Reps K F' ds xs
structure DPI (X : Cx) (W : WX) (tg iter : Expr) (den : Den (List D)) : Prop where
  run : PI X tg iter (rd relJ X.B W den)
theorem pi_weak {X : Cx} {tg iter : Expr} {t t' : TI} (h : PI X tg iter t) (k : ∀ σ H R, t' σ H R → t σ H R) : PI X tg iter t' := ⟨fun pins s σ H R I q => h.run pins s σ H R I (k σ H R q)⟩
def sq (d : Den D) : Den (List D) := dbind d fun x => dlift (seqD x)
def rg (g : List D → Option (List D)) (d : Den (List D)) : Den (List D) := dbind d fun x => dlift (g x)
section
variable {X : Cx} {W : WX} {tg iter : Expr} {body : List Stmt} {pos p p2 : Pos} {as : Den (List D)} {bind : D → Env → Option Env} {sl : List Nat} {db : SDen} {a b : Expr}
theorem dpi_seq {d : Den D} (h : DI X W iter d) : DPI X W tg iter (sq d) := ⟨pi_weak (pi_seq h.run) fun σ H R q => by
  obtain ⟨c, F, e, ts, R, q⟩ := q
  refine ⟨c, F, e, ts, R, q.bind (rel := relI) fun F1 H1 e1 x v ef hr q1 => ?_⟩
  obtain ⟨ds, hd, k⟩ := q1.lift
  obtain ⟨a, xs, rfl, hrs, hsrc⟩ := seq_src hr.2 hd
  refine ⟨a, rfl, ?_⟩
  rcases hsrc with hsrc | hsrc
  · exact .inl ⟨⟨xs, ex_l hr.1.fh hsrc⟩, k F1 H1 (Itl X.B a) (Ex.refl _) (Ex.refl _) ⟨hr.1, _, src_list, fun F' H' ef fh => ⟨xs, ex_l (ef.trans fh) hsrc, Reps.mono ef _ _ hrs⟩⟩⟩
  · exact .inr ⟨⟨xs, ex_t hr.1.fh hsrc⟩, k F1 H1 (Itt X.B a) (Ex.refl _) (Ex.refl _) ⟨hr.1, _, src_tup, fun F' H' ef fh => ⟨xs, ex_t (ef.trans fh) hsrc, Reps.mono ef _ _ hrs⟩⟩⟩⟩
theorem dpi_range1 (hgl : Gl X "range") (hm : X.mg "range" = none) (ha : DA X W [a] as) (hs0 : starEach [a] X.env = [(false, eval a X.env)] := by rfl) : DPI X W tg (.Call (.Name "range" p) [a] [] p2) (rg rng1D as) := ⟨pi_weak (pi_range1 hgl hm ha.run hs0) fun σ H R q => by
  obtain ⟨c, F, e, ts, R, q⟩ := q
  refine ⟨c, F, e, ts, R, q.bind (rel := relA) fun F1 H1 e1 vs v ef hr q1 => ?_⟩
  obtain ⟨ds, hd, k⟩ := q1.lift
  obtain ⟨n, rfl, b1, b2, rfl⟩ := rng1_case hd
  have ev := reps_int hr.2
  subst ev
  exact ⟨n, rfl, b1, b2, k F1 H1 _ (Ex.refl _) (Ex.refl _) ⟨hr.1, _, src_range, fun F' H' _ _ => ⟨_, rfl, reps_range⟩⟩⟩⟩
theorem dpi_range2 (hgl : Gl X "range") (hm : X.mg "range" = none) (ha : DA X W [a, b] as) (hs0 : starEach [a, b] X.env = [(false, eval a X.env), (false, eval b X.env)] := by rfl) (hs1 : starEach [b] X.env = [(false, eval b X.env)] := by rfl) :
    DPI X W tg (.Call (.Name "range" p) [a, b] [] p2) (rg rng2D as) := ⟨pi_weak (pi_range2 hgl hm ha.run hs0 hs1) fun σ H R q => by
  obtain ⟨c, F, e, ts, R, q⟩ := q
  refine ⟨c, F, e, ts, R, q.bind (rel := relA) fun F1 H1 e1 vs v ef hr q1 => ?_⟩
  obtain ⟨ds, hd, k⟩ := q1.lift
  obtain ⟨a', b', rfl, hz, rfl⟩ := rng2_case hd
  have ev := reps_int2 hr.2
  subst ev
  exact ⟨a', b', rfl, hz, k F1 H1 _ (Ex.refl _) (Ex.refl _) ⟨hr.1, _, src_range, fun F' H' _ _ => ⟨_, rfl, reps_range⟩⟩⟩⟩
/-- for over a frozen source -/
def sforP (src : Den (List D)) (bind : D → Env → Option Env) (body : SDen) : SDen := sbind src fun ds => sloop bind body ds
theorem ds_forP {src : Den (List D)} (hp : PassesOwn (model X.prog X.w) X.A X.env X.xe) (hc : X.calm = true) (hi : DPI X W tg iter src) (hg : DG X tg bind sl) (hb : DSs X W body db) (hs : ∀ x, foldedSetIterable iter X.env x = pure x := by intro _; rfl) :
    DS X W (.For tg iter body [] pos) (sforP src bind db) := ⟨ps_weak (ps_for hp hc hi.run hg.run hb.run hs) fun D0 σ H q => by
  obtain ⟨c, F, e, ts, R, q⟩ := q
  refine ⟨c, F, e, ts, R, q.sbind (rel := relJ) fun F1 H1 e1 ds J ef hr q1 => ?_⟩
  obtain ⟨R1, P, S, hP⟩ := hr
  exact loop_ok S (fun F' H' σ' e' ef' R' => hP F' H' ef' R'.fh) R1 q1⟩

/-! ### list comprehensions -/
def W0 : WX := fun _ _ _ _ => False
/-- the block's own slots are empty at a turn's start -/
def wipeE (e : Env) : List Nat → Env
  | [] => e
  | v :: vs => (wipeE e vs).set v none
/-- the slots as they were: frozen ones alone -/
def wiped (e : Env) (vs : List Nat) : Bool := vs.all fun v => match e[v]? with
  | some none => true
  | some (some (_, .im _)) => true
  | _ => false
def restE (e e' : Env) : List Nat → Env
  | [] => e'
  | v :: vs => (restE e e' vs).set v (e[v]?.getD none)
def cloop (bind : D → Env → Option Env) (tt : Den Bool) (elt : Den Rv) (vs : List Nat) : List D → List O → Env → Option (Res (List O))
  | [], acc, e => some (.ok false e acc)
  | d :: ds, acc, e => match bind d e with
    | none => none
    | some e1 => match tt e1 with
      | some (.ok m1 e2 false) => Res.more (α := Bool) m1 (cloop bind tt elt vs ds acc (wipeE e2 vs))
      | some (.ok m1 e2 true) => match elt e2 with
        | some (.ok m2 e3 rv) => match rvO rv e3 with
          | some (.ok _ e4 o) => if acc.length < sizeLine then Res.more (α := Bool) (m1 || m2) (cloop bind tt elt vs ds (acc ++ [o]) (wipeE e4 vs)) else none
          | _ => none
        | _ => none
      | _ => none
def dcomp (src : Den (List D)) (bind : D → Env → Option Env) (tt : Den Bool) (elt : Den Rv) (vs : List Nat) : Den Rv := dbind src fun ds e => if wiped e vs = true then (match cloop bind tt elt vs ds [] (wipeE e vs) with
  | some (.ok m e' os) => some (.ok m (restE e e' vs) (.new (.lst os)))
  | _ => none) else none
structure DTs (X : Cx) (W : WX) (ifs : List Expr) (den : Den Bool) : Prop where
  run : PTs X ifs (rd relB X.B W den)
theorem pts_weak {ifs : List Expr} {t t' : TT} (h : PTs X ifs t) (k : ∀ σ H Q, t' σ H Q → t σ H Q) : PTs X ifs t' := ⟨fun pins s σ H Q I q => h.run pins s σ H Q I (k σ H Q q)⟩
theorem dts_nil : DTs X W [] (dpure true) := ⟨pts_weak pts_nil fun σ H Q q => by
  obtain ⟨c, F, e, ts, R, q⟩ := q
  exact At.pure (a := true) q F H true (Ex.refl _) (Ex.refl _) ⟨R, rfl⟩⟩
theorem dts_one {c : Expr} {den : Den Bool} (h : DT X W c den) : DTs X W [c] den := ⟨pts_one h.run⟩
end
section
variable {K : KB} {c : Ctx} {F H : Hp} {σ : L2.St} {e : Env} {ts : List (V × O)}
theorem RE.clr {i : Nat} {x : Option V} (R : RE K c F H σ e ts) (h : e[i]? = some none ∨ ∃ b o, e[i]? = some (some (b, o))) : RE K c F H σ (e.set i none) ts := by
  rcases h with h | ⟨b, o, h⟩
  · have : e.set i none = e := by
      have := (List.getElem?_eq_some_iff.mp h)
      obtain ⟨h1, h2⟩ := this
      conv => rhs; rw [← List.set_getElem_self h1, h2]
    rw [this]
    exact R
  · exact R.clear h
theorem Slots.forget : ∀ {e : Env} {σ σ0 : L2.St} {hs : List (V × O)} {i : Nat}, Slots e σ σ0 hs → e[i]? = some none → ∀ x, Slots e (σ.set i x) σ0 hs
  | [], σ, σ0, hs, i, h, he, x => by simp at he
  | none :: e, σ, σ0, hs, 0, h, he, x => by
    obtain ⟨y, r, e1, h1⟩ := h
    subst e1
    exact ⟨x, r, rfl, h1⟩
  | some q :: e, σ, σ0, hs, 0, h, he, x => by simp at he
  | none :: e, σ, σ0, hs, i + 1, h, he, x => by
    obtain ⟨y, r, e1, h1⟩ := h
    subst e1
    exact ⟨y, r.set i x, rfl, Slots.forget h1 (by simpa using he) x⟩
  | some q :: e, σ, σ0, hs, i + 1, h, he, x => by
    obtain ⟨v, r, hr, e1, hb, e2, h1⟩ := h
    subst e1
    exact ⟨v, r.set i x, hr, rfl, hb, e2, Slots.forget h1 (by simpa using he) x⟩
theorem RE.forget {i : Nat} (R : RE K c F H σ e ts) (h : e[i]? = some none) (x : Option V) : RE K c F H (σ.set i x) e ts := by
  obtain ⟨hs, fs, h1, h2, h3, h4⟩ := R.hd
  exact ⟨R.g, R.f0, R.fh, R.nw, hs, fs, h1.forget h x, h2, h3, h4⟩
theorem wipeE_len (e : Env) : ∀ vs : List Nat, (wipeE e vs).length = e.length
  | [] => rfl
  | v :: vs => by unfold wipeE; rw [List.length_set, wipeE_len e vs]
theorem RE.len (R : RE K c F H σ e ts) : σ.length = e.length := by
  obtain ⟨hs, fs, h1, _⟩ := R.hd
  exact h1.len
theorem RE.wipe (R : RE K c F H σ e ts) : ∀ vs : List Nat, (∀ v ∈ vs, v < e.length) → RE K c F H (L2.wipe σ vs) (wipeE e vs) ts
  | [], _ => R
  | v :: vs, hv => by
    have R1 := RE.wipe R vs (fun w hw => hv w (List.mem_cons_of_mem _ hw))
    have hl : v < (wipeE e vs).length := by rw [wipeE_len]; exact hv v List.mem_cons_self
    have R2 : RE K c F H (L2.wipe σ vs) ((wipeE e vs).set v none) ts := by
      cases q : (wipeE e vs)[v]? with
      | none => exact absurd (List.getElem?_eq_none_iff.mp q) (by omega)
      | some s =>
        cases s with
        | none => exact R1.clr (x := none) (.inl q)
        | some s => obtain ⟨b, o⟩ := s; exact R1.clr (x := none) (.inr ⟨b, o, q⟩)
    exact R2.forget (List.getElem?_set_self hl) none
theorem Slots.ext : ∀ {e : Env} {σ τ σ0 : L2.St} {hs : List (V × O)}, Slots e σ σ0 hs → σ.length = τ.length → (∀ (j : Nat) (q : Bool × O), e[j]? = some (some q) → τ[j]? = σ[j]?) → Slots e τ σ0 hs
  | [], σ, τ, σ0, hs, h, hl, k => by
    obtain ⟨e1, e2⟩ := h
    subst e1
    exact ⟨List.length_eq_zero_iff.mp hl.symm, e2⟩
  | none :: e, σ, τ, σ0, hs, h, hl, k => by
    obtain ⟨x, r, e1, h1⟩ := h
    subst e1
    cases τ with
    | nil => simp at hl
    | cons y t => exact ⟨y, t, rfl, Slots.ext h1 (by simpa using hl) fun j q hj => by simpa using k (j + 1) q (by simpa using hj)⟩
  | some q :: e, σ, τ, σ0, hs, h, hl, k => by
    obtain ⟨v, r, hr, e1, hb, e2, h1⟩ := h
    subst e1
    cases τ with
    | nil => simp at hl
    | cons y t =>
      have hy : y = some v := by simpa using k 0 q rfl
      subst hy
      exact ⟨v, t, hr, rfl, hb, e2, Slots.ext h1 (by simpa using hl) fun j q hj => by simpa using k (j + 1) q (by simpa using hj)⟩
theorem wipe_out (σ : L2.St) : ∀ (vs : List Nat) (j : Nat), j ∉ vs → (L2.wipe σ vs)[j]? = σ[j]?
  | [], j, _ => rfl
  | v :: vs, j, h => by
    unfold L2.wipe
    rw [List.getElem?_set_ne (fun z => h (by rw [← z]; exact List.mem_cons_self))]
    exact wipe_out σ vs j fun z => h (List.mem_cons_of_mem _ z)
theorem RE.awake {vs : List Nat} (R : RE K c F H (L2.wipe σ vs) e ts) (hn : ∀ v ∈ vs, e[v]? = some none) : RE K c F H σ e ts := by
  obtain ⟨hs, fs, h1, h2, h3, h4⟩ := R.hd
  refine ⟨R.g, R.f0, R.fh, R.nw, hs, fs, h1.ext (L2.wipe_length σ vs) fun j q hj => ?_, h2, h3, h4⟩
  refine (wipe_out σ vs j fun z => ?_).symm
  rw [hn j z] at hj
  cases hj
/-- what the block forgot is there again -/
theorem RE.unwipe {e' : Env} {F' H' : Hp} {ts' : List (V × O)} (R0 : RE K c F H σ e ts) (ef : Ex F F') : ∀ vs : List Nat, vs.Nodup → wiped e vs = true → RE K c F' H' σ e' ts' → (∀ v ∈ vs, e'[v]? = some none) → RE K c F' H' σ (restE e e' vs) ts' ∧ ∀ j, j ∉ vs → (restE e e' vs)[j]? = e'[j]?
  | [], _, _, R, _ => ⟨R, fun _ _ => rfl⟩
  | v :: vs, nd, hw, R, hn => by
    obtain ⟨n1, n2⟩ := List.nodup_cons.mp nd
    unfold wiped at hw
    rw [List.all_cons, Bool.and_eq_true] at hw
    obtain ⟨R1, k1⟩ := RE.unwipe R0 ef vs n2 hw.2 R (fun w hwm => hn w (List.mem_cons_of_mem _ hwm))
    have hv : (restE e e' vs)[v]? = some none := by rw [k1 v n1]; exact hn v List.mem_cons_self
    refine ⟨?_, fun j hj => ?_⟩
    · unfold restE
      cases q : e[v]? with
      | none => rw [q] at hw; cases hw.1
      | some s =>
        cases s with
        | none =>
          show RE K c F' H' σ ((restE e e' vs).set v none) ts'
          exact R1.clr (x := none) (.inl hv)
        | some s =>
          obtain ⟨b, o⟩ := s
          cases o with
          | im d =>
            obtain ⟨w, hw2, hb, _⟩ := R0.out q
            obtain ⟨w', hw3, hrep⟩ := R0.slotIm q
            rw [hw2] at hw3
            cases hw3
            exact (R1.imT (Rep.mono ef _ _ hrep)).inn hv hw2 hb
          | _ => rw [q] at hw; cases hw.1
    · unfold restE
      rw [List.getElem?_set_ne (fun z => hj (by rw [← z]; exact List.mem_cons_self))]
      exact k1 j fun z => hj (List.mem_cons_of_mem _ z)
theorem wipeE_in (e : Env) : ∀ (vs : List Nat), (∀ v ∈ vs, v < e.length) → ∀ v ∈ vs, (wipeE e vs)[v]? = some none
  | [], _, v, h => by cases h
  | w :: vs, hl, v, h => by
    unfold wipeE
    by_cases q : w = v
    · subst q
      exact List.getElem?_set_self (by rw [wipeE_len]; exact hl w List.mem_cons_self)
    · rw [List.getElem?_set_ne q]
      rcases List.mem_cons.mp h with z | z
      · exact absurd z.symm q
      · exact wipeE_in e vs (fun u hu => hl u (List.mem_cons_of_mem _ hu)) v z
theorem wiped_lt {e : Env} {vs : List Nat} (h : wiped e vs = true) : ∀ v ∈ vs, v < e.length := fun v hv => by
  unfold wiped at h
  have := List.all_eq_true.mp h v hv
  cases q : e[v]? with
  | none => rw [q] at this; cases this
  | some s => exact (List.getElem?_eq_some_iff.mp q).1
theorem wipe_in (σ : L2.St) : ∀ (vs : List Nat) (j : Nat), j ∈ vs → j < σ.length → (L2.wipe σ vs)[j]? = some none
  | [], j, h, _ => by cases h
  | w :: vs, j, h, hl => by
    unfold L2.wipe
    by_cases q : w = j
    · subst q
      exact List.getElem?_set_self (by rw [L2.wipe_length]; exact hl)
    · rw [List.getElem?_set_ne q]
      rcases List.mem_cons.mp h with z | z
      · exact absurd z.symm q
      · exact wipe_in σ vs j z hl
theorem wipe_off {sl vs : List Nat} {σ σ' : L2.St} (h : Off sl (L2.wipe σ vs) σ') (hs : ∀ i ∈ sl, i ∈ vs) : L2.wipe σ' vs = L2.wipe σ vs := by
  refine List.ext_getElem? fun j => ?_
  have hl : σ'.length = σ.length := h.1.trans (L2.wipe_length σ vs)
  by_cases hj : j ∈ vs
  · by_cases hlt : j < σ.length
    · rw [wipe_in σ' vs j hj (by omega), wipe_in σ vs j hj hlt]
    · rw [List.getElem?_eq_none_iff.mpr (by rw [L2.wipe_length]; omega), List.getElem?_eq_none_iff.mpr (by rw [L2.wipe_length]; omega)]
  · rw [wipe_out σ' vs j hj, h.2 j fun z => hj (hs j z)]
theorem more_ok {α β : Type} {m : Bool} {x : Option (Res β)} {m' : Bool} {e' : Env} {b : β} (h : Res.more (α := α) m x = some (.ok m' e' b)) : ∃ m2, x = some (.ok m2 e' b) ∧ m' = (m || m2) := by
  cases x with
  | none => cases h
  | some r =>
    cases r with
    | ok m2 e2 b2 => cases h; exact ⟨m2, rfl, rfl⟩
    | err m2 e2 x => cases h
end
section
variable {X : Cx} {tg iter elt : Expr} {ifs : List Expr} {scope : Scope} {own : List (Str × Nat)} {pos : Pos} {src : Den (List D)} {bind : D → Env → Option Env} {sl : List Nat} {tt : Den Bool} {de : Den Rv} {W : WX}
/-- the comprehension's reading, from its denotation -/
theorem comp_rd {vs : List Nat} {σ : L2.St} {H : Hp} {Q : VK} (nd : vs.Nodup) (hsl : ∀ i ∈ sl, i ∈ vs) (q : rd relR X.B W (dcomp src bind tt de vs) σ H Q) :
    tLc (rd relJ X.B W src) (tgR X.B bind sl) (rd relB X.B W0 tt) (rd relR X.B W0 de) vs σ H Q := by
  obtain ⟨c, F, e, ts, R, q⟩ := q
  refine ⟨c, F, e, ts, R, q.bind (rel := relJ) fun F1 H1 e1 ds J ef hr q1 => ?_⟩
  obtain ⟨R1, P, S, hP⟩ := hr
  intro Dl hD
  obtain ⟨r, hr2, post⟩ := q1
  dsimp only at hr2
  split at hr2
  · rename_i hw
    cases hcl : cloop bind tt de vs ds [] (wipeE e1 vs) with
    | none => rw [hcl] at hr2; cases hr2
    | some r1 =>
      rw [hcl] at hr2
      cases r1 with
      | err m e' x => cases hr2
      | ok m e' os =>
        cases hr2
        have hlt := wiped_lt hw
        have R2 : RE X.B c F1 (upd H1 Dl (.lst [])) (L2.wipe σ vs) (wipeE e1 vs) ((.ref Dl, .lst []) :: ts) := (R1.newO (u := .lst []) (o := .lst []) hD ⟨Dl, [], [], rfl, rfl, upd_same, ⟨rfl, rfl⟩⟩).wipe vs hlt
        refine ⟨fun i k H => ∃ mm m1 F2 e2 os2, (mm = false → Ex H1 H) ∧ Ex F1 F2 ∧ RE X.B c F2 H (L2.wipe σ vs) e2 ((.ref Dl, .lst os2) :: ts) ∧ (∀ v ∈ vs, e2[v]? = some none) ∧ cloop bind tt de vs (ds.drop i) os2 e2 = some (.ok m1 e' os) ∧ m = (mm || m1) ∧ k + i = ds.length,
          ⟨ds.length, false, m, F1, _, [], fun _ => Ex.new hD, Ex.refl _, R2, wipeE_in e1 vs hlt, hcl, by simp, by omega⟩, ?_⟩
        rintro i k H2 ⟨mm, m1, F2, e2, os2, hex, ef2, R3, hn, hc2, hm, hk⟩
        obtain ⟨xs, p1, hrs⟩ := hP F2 H2 ef2 R3.fh
        have hlen := hrs.length
        by_cases hi : i < xs.length
        · refine .inr ⟨S.go i xs H2 p1 hi, fun H' => ∃ mm m1 F2 e2 os2, (mm = false → Ex H1 H') ∧ Ex F1 F2 ∧ RE X.B c F2 H' (L2.wipe σ vs) e2 ((.ref Dl, .lst os2) :: ts) ∧ (∀ v ∈ vs, e2[v]? = some none) ∧ cloop bind tt de vs (ds.drop (i + 1)) os2 e2 = some (.ok m1 e' os) ∧ m = (mm || m1),
            fun H' ⟨mm, m1, F3, e3, os3, a1, a2, a3, a4, a5, a6⟩ => ⟨k - 1, by omega, mm, m1, F3, e3, os3, a1, a2, a3, a4, a5, a6, by omega⟩, ?_⟩
          intro x H' hy
          obtain ⟨rfl, hx⟩ := S.yld i xs H2 x H' p1 hi hy
          obtain ⟨d, hd, hrep⟩ := hrs.getV i hx
          have hdrop : ds.drop i = d :: ds.drop (i + 1) := by
            have hl : i < ds.length := by omega
            rw [List.drop_eq_getElem_cons hl]
            have := (List.getElem?_eq_some_iff.mp hd).2
            rw [this]
          rw [hdrop] at hc2
          unfold cloop at hc2
          cases hb : bind d e2 with
          | none => rw [hb] at hc2; cases hc2
          | some e3 =>
            rw [hb] at hc2
            dsimp only at hc2
            refine ⟨c, F2, e2, (.ref Dl, .lst os2) :: ts, d, e3, R3, hrep, hb, fun σ' R4 hoff => ⟨wipe_off hoff hsl, c, F2, e3, (.ref Dl, .lst os2) :: ts, R4, ?_⟩⟩
            have hwo := wipe_off hoff hsl
            cases htt : tt e3 with
            | none => rw [htt] at hc2; cases hc2
            | some r2 =>
              rw [htt] at hc2
              cases r2 with
              | err m e x => cases hc2
              | ok mt e4 bt =>
                refine ⟨_, htt, fun F4 H4 bt' ef4 eh4 hrel => ?_⟩
                obtain ⟨R5, rfl⟩ := hrel
                have hlen5 : e4.length = σ.length := R5.len.symm.trans (hoff.1.trans (L2.wipe_length σ vs))
                have hlt5 : ∀ v ∈ vs, v < e4.length := fun v hv => by
                  rw [hlen5, R1.len]
                  exact hlt v hv
                cases bt with
                | false =>
                  refine iteF ?_
                  dsimp only at hc2
                  obtain ⟨m2, hc3, hm2⟩ := more_ok hc2
                  have R6 := R5.wipe vs hlt5
                  rw [hwo] at R6
                  refine ⟨mm || mt, m2, F4, wipeE e4 vs, os2, fun z => (hex (or_l z)).trans (eh4 (or_r z)), ef2.trans ef4, R6, wipeE_in e4 vs hlt5, hc3, ?_⟩
                  rw [hm, hm2, Bool.or_assoc]
                | true =>
                  refine iteT ⟨c, F4, e4, (.ref Dl, .lst os2) :: ts, R5, ?_⟩
                  dsimp only at hc2
                  cases hde : de e4 with
                  | none => rw [hde] at hc2; cases hc2
                  | some r3 =>
                    rw [hde] at hc2
                    cases r3 with
                    | err m e x => cases hc2
                    | ok md e5 rv =>
                      refine ⟨_, hde, fun F5 H5 y ef5 eh5 hrel => ?_⟩
                      dsimp only at hc2
                      cases hrv : rvO rv e5 with
                      | none => rw [hrv] at hc2; cases hc2
                      | some r4 =>
                        rw [hrv] at hc2
                        cases r4 with
                        | err m e x => cases hc2
                        | ok mo e6 o =>
                          dsimp only at hc2
                          split at hc2
                          · rename_i hz
                            obtain ⟨m2, hc3, hm2⟩ := more_ok hc2
                            -- the value as a temporary
                            have tmp : ∃ F6, Ex F5 F6 ∧ RE X.B c F6 H5 σ' e6 ((y, o) :: (.ref Dl, .lst os2) :: ts) := by
                              cases rv with
                              | im d => cases hrv; exact ⟨F5, Ex.refl _, hrel.1.imT hrel.2⟩
                              | new o' => cases hrv; exact ⟨F5, Ex.refl _, hrel⟩
                              | bor i2 o' =>
                                obtain ⟨R7, hv7, b7, hb7⟩ := hrel
                                unfold rvO at hrv
                                dsimp only at hrv
                                rw [hb7] at hrv
                                cases hrv
                                obtain ⟨F6, w, e7, hw7, R8, hrep8⟩ := R7.freezeS hb7
                                rw [hv7] at hw7
                                cases hw7
                                exact ⟨F6, e7, R8.imT hrep8⟩
                            obtain ⟨F6, ef6, R6⟩ := tmp
                            obtain ⟨l, xs', el, hl, hlen', R7⟩ := (R6.perm (List.Perm.swap _ _ _)).push
                            cases el
                            have hlen6 : e6.length = σ.length := R6.len.symm.trans (hoff.1.trans (L2.wipe_length σ vs))
                            have hlt6 : ∀ v ∈ vs, v < e6.length := fun v hv => by
                              rw [hlen6, R1.len]
                              exact hlt v hv
                            have R8 := R7.wipe vs hlt6
                            rw [hwo] at R8
                            refine ⟨xs', hl, by rw [← hlen']; exact hz, mm || (mt || md), m2, F6, wipeE e6 vs, os2 ++ [o], fun z => ?_, ((ef2.trans ef4).trans ef5).trans ef6, R8, wipeE_in e6 vs hlt6, hc3, ?_⟩
                            · have z1 := hex (or_l z)
                              have z2 := eh4 (or_l (or_r z))
                              have z3 := eh5 (or_r (or_r z))
                              exact ((z1.trans z2).trans z3).mut hD
                            · rw [hm, hm2]
                              simp only [Bool.or_assoc]
                          · cases hc2
        · refine .inl ⟨S.stop i xs H2 p1 (by omega), ?_⟩
          have hdrop : ds.drop i = [] := List.drop_eq_nil_of_le (by omega)
          rw [hdrop] at hc2
          cases hc2
          obtain ⟨R4, _⟩ := RE.unwipe R1 ef2 vs nd hw (R3.awake hn) hn
          exact post F2 H2 (.ref Dl) ef2 (fun z => hex (by rw [hm] at z; exact or_l z)) R4
  · cases hr2
theorem de_comp (hc : X.calm = true) (hN : X.N.Nodup) (hi : DPI X W tg iter src) (ok : BlkOk X.N X.env.scope scope own) (nd : (own.map (·.2)).Nodup) (hsl : ∀ i ∈ sl, i ∈ own.map (·.2))
    (hg : ∀ (s : Shared) (H : Hp) (C : Addr) (cl : List (Str × Addr)) (fp : List Addr), DG (X.blk s H scope (compEnvC scope cl C X.env) fp) tg bind sl) (ht : ∀ (s : Shared) (H : Hp) (C : Addr) (cl : List (Str × Addr)) (fp : List Addr), DTs (X.blk s H scope (compEnvC scope cl C X.env) fp) W0 ifs tt)
    (he : ∀ (s : Shared) (H : Hp) (C : Addr) (cl : List (Str × Addr)) (fp : List Addr), DE (X.blk s H scope (compEnvC scope cl C X.env) fp) W0 elt de) (hs : ∀ x, foldedSetIterable iter X.env x = pure x := by intro _; rfl) :
    DE X W (.ListComp elt [⟨tg, iter, ifs, 0⟩] scope pos) (dcomp src bind tt de (own.map (·.2))) :=
  ⟨pe_weak (pe_lc hc hN hi.run ok (fun s H C cl fp => (hg s H C cl fp).run) (fun s H C cl fp => (ht s H C cl fp).run) (fun s H C cl fp => (he s H C cl fp).run) hs) fun σ H Q q => comp_rd nd hsl q⟩
/-- name = [..] -/
theorem ds_setLc {i : Nat} {y : Str} {py spos : Pos} (hc : X.calm = true) (hN : X.N.Nodup) (hy : X.N[i]? = some y) (hyl : X.env.scope.names.lookup y = some .local) (hsw : swapsWith (.ListComp elt [⟨tg, iter, ifs, 0⟩] scope pos) (some (.Name y py)) spos.line X.env = pure true)
    (hi : DPI X W tg iter src) (ok : BlkOk X.N X.env.scope scope own) (nd : (own.map (·.2)).Nodup) (hsl : ∀ i ∈ sl, i ∈ own.map (·.2))
    (hg : ∀ (s : Shared) (H : Hp) (C : Addr) (cl : List (Str × Addr)) (fp : List Addr), DG (X.blk s H scope (compEnvC scope cl C X.env) fp) tg bind sl) (ht : ∀ (s : Shared) (H : Hp) (C : Addr) (cl : List (Str × Addr)) (fp : List Addr), DTs (X.blk s H scope (compEnvC scope cl C X.env) fp) W0 ifs tt)
    (he : ∀ (s : Shared) (H : Hp) (C : Addr) (cl : List (Str × Addr)) (fp : List Addr), DE (X.blk s H scope (compEnvC scope cl C X.env) fp) W0 elt de) (hs : ∀ x, foldedSetIterable iter X.env x = pure x := by intro _; rfl) :
    DS X W (.Assign [.Name y py] (.ListComp elt [⟨tg, iter, ifs, 0⟩] scope pos) spos) (sset i (dcomp src bind tt de (own.map (·.2)))) :=
  ⟨ps_weak (ps_setLc hc hN hy hyl hsw hi.run ok (fun s H C cl fp => (hg s H C cl fp).run) (fun s H C cl fp => (ht s H C cl fp).run) (fun s H C cl fp => (he s H C cl fp).run) hs) fun D0 σ H q => by
    obtain ⟨c, F, e, ts, R, q⟩ := q
    show tLc _ _ _ _ _ σ H (fun x H1 => D0.nx (σ.set i (some x)) H1)
    exact comp_rd nd hsl ⟨c, F, e, ts, R, q.set⟩⟩
end
end DL

/-! DLK: items, slices, fields, built-in calls. -/
namespace DL
open PySem PySem.Spec PyProof.Rows L2 Evl

/-! ### a value that is looked into: frozen, or a slot's -/
def relA1 : Rel AR V := fun K c F H σ e ts a v => RE K c F H σ e ts ∧ match a with
  | .im d => Rep K F d v
  | .bor i => σ[i]? = some (some v)
def ar1 (d : Den Rv) : Den AR := dbind d fun r => dpure (darg r)
theorem At.ar {K : KB} {W : WX} {c : Ctx} {F H : Hp} {σ : L2.St} {e : Env} {ts : List (V × O)} {d : Den Rv} {γ δ : Type} {rel2 : Rel γ δ} {f : AR → Den γ} {Q : δ → Hp → Prop} {Q' : V → Hp → Prop} (h : At rel2 K W (dbind (ar1 d) f) c F σ e ts H Q)
    (k : ∀ F1 H1 e1 a v, Ex F F1 → relA1 K c F1 H1 σ e1 ts a v → At rel2 K W (f a) c F1 σ e1 ts H1 Q → Q' v H1) : At relR K W d c F σ e ts H Q' := by
  obtain ⟨r, hr, post⟩ := h
  unfold dbind at hr
  cases hd : d e with
  | none =>
    unfold ar1 dbind at hr
    rw [hd] at hr
    cases hr
  | some r1 =>
    cases r1 with
    | err m e1 x =>
      unfold ar1 dbind at hr
      rw [hd] at hr
      cases hr
      exact ⟨_, hd, post⟩
    | ok m e1 rv =>
      have h1 : ar1 d e = some (.ok m e1 (darg rv)) := by
        unfold ar1 dbind
        rw [hd]
        show some (Res.ok (m || false) e1 (darg rv)) = _
        rw [Bool.or_false]
      rw [h1] at hr
      refine ⟨_, hd, fun F1 H1 v ef eh hrel => ?_⟩
      have go : ∀ F2, Ex F1 F2 → relA1 K c F2 H1 σ e1 ts (darg rv) v → Q' v H1 := fun F2 e12 hra => by
        refine k F2 H1 e1 (darg rv) v (ef.trans e12) hra ?_
        dsimp only at hr
        cases hf : f (darg rv) e1 with
        | none => rw [hf] at hr; cases hr
        | some r2 =>
          rw [hf] at hr
          refine ⟨r2, hf, ?_⟩
          cases r2 with
          | err m2 e2 x =>
            cases hr
            exact fun F' H' cls d ef' eh' R hx => post F' H' cls d ((ef.trans e12).trans ef') (fun z => (eh (or_l z)).trans (eh' (or_r z))) R hx
          | ok m2 e2 b =>
            cases hr
            exact fun F' H' w ef' eh' hrel' => post F' H' w ((ef.trans e12).trans ef') (fun z => (eh (or_l z)).trans (eh' (or_r z))) hrel'
      cases rv with
      | im d => exact go F1 (Ex.refl _) hrel
      | new o =>
        obtain ⟨F3, e3, R3, h3⟩ := RE.freezeT hrel
        exact go F3 e3 ⟨R3, h3⟩
      | bor i o => exact go F1 (Ex.refl _) ⟨hrel.1, hrel.2.1⟩
/-! ### items -/
@[simp] def elemD : D → D → Option D
  | .tup ds, .int i => atI ds i
  | .wtp ds, .int i => atI ds i
  | .lst ds, .int i => atI ds i
  | .scr ds, .int i => atI ds i
  | .str z, .int i => if z.length ≤ sizeLine then (atI z.cps.toList i).map fun c => .str ⟨#[c]⟩ else none
  | _, _ => none
@[simp] def imO : O → Option D
  | .im d => some d
  | _ => none
def elemO : O → D → Option D
  | .lst os, .int i => (atI os i).bind imO
  | .tup os, .int i => (atI os i).bind imO
  | .im d, i => elemD d i
  | _, _ => none
def slotO (e : Env) (i : Nat) : Option O := match e[i]? with
  | some (some (_, o)) => some o
  | _ => none
def elemA (a : AR) (i : D) : Den D := fun e => match a with
  | .im d => (elemD d i).map fun x => Res.ok false e x
  | .bor k => ((slotO e k).bind fun o => elemO o i).map fun x => Res.ok false e x
def dix (da : Den Rv) (di : Den D) : Den D := dbind (ar1 da) fun a => dbind di fun i => elemA a i
theorem atI_reps {K : KB} {F : Hp} {ds : List D} {xs : List V} {i : Int} {d : D} (h : Reps K F ds xs) (e : atI ds i = some d) : ∃ x, atI xs i = some x ∧ Rep K F d x := by
  unfold atI at e ⊢
  rw [h.length] at e
  obtain ⟨j, hj, e2⟩ := Option.bind_eq_some_iff.mp e
  obtain ⟨x, hx, hr⟩ := h.get j e2
  exact ⟨x, by rw [hj]; exact hx, hr⟩
theorem atI_owns {K : KB} {F H : Hp} {os : List O} {xs : List V} {fs : List Addr} {i : Int} {d : D} (h : Owns K F H os xs fs) (e : atI os i = some (.im d)) : ∃ x, atI xs i = some x ∧ Rep K F d x := by
  unfold atI at e ⊢
  rw [h.length] at e
  obtain ⟨j, hj, e2⟩ := Option.bind_eq_some_iff.mp e
  have key : ∀ {os : List O} {xs : List V} {fs : List Addr} {j : Nat}, Owns K F H os xs fs → os[j]? = some (.im d) → ∃ x, xs[j]? = some x ∧ Rep K F d x := by
    intro os
    induction os with
    | nil => intro xs fs j _ z; simp at z
    | cons o os ih =>
      intro xs fs j h z
      obtain ⟨x, r, f1, f2, e1, _, h1, h2⟩ := h
      subst e1
      cases j with
      | zero =>
        have : o = .im d := by simpa using z
        subst this
        exact ⟨x, rfl, h1.2⟩
      | succ j =>
        obtain ⟨y, hy, hr⟩ := ih h2 (by simpa using z)
        exact ⟨y, by simpa using hy, hr⟩
  obtain ⟨x, hx, hr⟩ := key h e2
  exact ⟨x, by rw [hj]; exact hx, hr⟩
theorem imO_eq {o : Option O} {d : D} (h : o.bind imO = some d) : o = some (.im d) := by
  obtain ⟨x, hx, h2⟩ := Option.bind_eq_some_iff.mp h
  cases x <;> cases h2
  exact hx
theorem elemD_ok {K : KB} {F H : Hp} {d i x : D} {v u : V} {Q : VK} (fh : Ex F H) (h : Rep K F d v) (hi : Rep K F i u) (e : elemD d i = some x) (k : ∀ w, Rep K F x w → Q w H) : rIx K v u H Q := by
  unfold elemD at e
  split at e
  · obtain ⟨a, xs, rfl, h1, h2⟩ := h
    obtain ⟨w, hw, hr⟩ := atI_reps h2 e
    exact .inr (.inl ⟨a, xs, _, w, rfl, hi, ex_t fh h1, hw, k w hr⟩)
  · obtain ⟨a, xs, rfl, h1, h2⟩ := h
    obtain ⟨w, hw, hr⟩ := atI_reps h2 e
    exact .inr (.inl ⟨a, xs, _, w, rfl, hi, ex_t fh h1, hw, k w hr⟩)
  · obtain ⟨a, xs, rfl, h1, h2⟩ := h
    obtain ⟨w, hw, hr⟩ := atI_reps h2 e
    exact .inl ⟨a, xs, _, w, rfl, hi, SqL.of (fh _ _ h1), hw, k w hr⟩
  · obtain ⟨a, xs, rfl, h1, h2⟩ := h
    obtain ⟨w, hw, hr⟩ := atI_reps h2 e
    exact .inl ⟨a, xs, _, w, rfl, hi, ex_l fh h1, hw, k w hr⟩
  · split at e
    · rename_i hz
      obtain ⟨cc, hc, e2⟩ := Option.map_eq_some_iff.mp e
      subst e2
      exact .inr (.inr ⟨_, _, cc, h, hi, hz, hc, k _ rfl⟩)
    · cases e
  · cases e
theorem elemO_ok {K : KB} {F H : Hp} {o : O} {i x : D} {v u : V} {fs : List Addr} {Q : VK} (fh : Ex F H) (h : Own K F H o v fs) (hi : Rep K F i u) (e : elemO o i = some x) (k : ∀ w, Rep K F x w → Q w H) : rIx K v u H Q := by
  unfold elemO at e
  split at e
  · obtain ⟨a, xs, r, rfl, _, h1, h2⟩ := h
    obtain ⟨w, hw, hr⟩ := atI_owns h2 (imO_eq e)
    exact .inl ⟨a, xs, _, w, rfl, hi, SqL.of h1, hw, k w hr⟩
  · obtain ⟨a, xs, r, rfl, _, h1, h2⟩ := h
    obtain ⟨w, hw, hr⟩ := atI_owns h2 (imO_eq e)
    exact .inr (.inl ⟨a, xs, _, w, rfl, hi, SqT.of h1, hw, k w hr⟩)
  · exact elemD_ok fh h.2 hi e k
  · cases e
theorem slotO_eq {e : Env} {i : Nat} {o : O} (h : slotO e i = some o) : ∃ b, e[i]? = some (some (b, o)) := by
  unfold slotO at h
  split at h
  · rename_i b o' he
    cases h
    exact ⟨b, he⟩
  · cases h
section
variable {X : Cx} {W : WX} {a b ex : Expr} {pos p : Pos} {da : Den Rv} {di : Den D}
theorem di_ix (ha : DE X W a da) (hb : DI X W b di) (hs : PlainIx b := by exact fun _ _ => rfl) : DI X W (.Subscript a b pos) (dix da di) := ⟨pe_weak (pe_ix ix_seq ha.run hb.run hs) fun σ H Q q => by
  obtain ⟨c, F, e, ts, R, q⟩ := q
  refine ⟨c, F, e, ts, R, q.ar fun F1 H1 e1 x v ef hr q1 => ⟨c, F1, e1, ts, hr.1, q1.bind (rel := relI) fun F2 H2 e2 y u ef2 hr2 q2 => ?_⟩⟩
  obtain ⟨r, hr3, post⟩ := q2
  unfold elemA at hr3
  cases x with
  | im d =>
    obtain ⟨z, hz, e3⟩ := Option.map_eq_some_iff.mp hr3
    subst e3
    exact elemD_ok hr2.1.fh (Rep.mono ef2 _ _ hr.2) hr2.2 hz fun w hw => post F2 H2 w (Ex.refl _) (fun _ => Ex.refl _) ⟨hr2.1, hw⟩
  | bor k =>
    obtain ⟨z, hz, e3⟩ := Option.map_eq_some_iff.mp hr3
    subst e3
    obtain ⟨o, ho, hel⟩ := Option.bind_eq_some_iff.mp hz
    obtain ⟨b, hb⟩ := slotO_eq ho
    obtain ⟨w, fs, hw, how⟩ := hr2.1.slot hb
    rw [hr.2] at hw
    cases hw
    exact elemO_ok hr2.1.fh how hr2.2 hel fun w hw => post F2 H2 w (Ex.refl _) (fun _ => Ex.refl _) ⟨hr2.1, hw⟩⟩
/-! ### fields -/
def fldA (Cs : List Addr) (f : Str) (a : AR) : Den D := fun e => match a with
  | .im (.ins C ns ds) => if C ∈ Cs then ((ns.zip ds).lookup f).map fun x => Res.ok false e x else none
  | .im _ => none
  | .bor k => match slotO e k with
    | some (.ins C ns os) => if C ∈ Cs then (((ns.zip os).lookup f).bind imO).map fun x => Res.ok false e x else none
    | _ => none
theorem reps_look {K : KB} {F : Hp} {f : Str} {d : D} : ∀ {ns : List Str} {ds : List D} {xs : List V}, Reps K F ds xs → (ns.zip ds).lookup f = some d → ∃ x, (ns.zip xs).lookup f = some x ∧ Rep K F d x
  | [], ds, xs, h, e => by simp at e
  | n :: ns, [], xs, h, e => by simp at e
  | n :: ns, d0 :: ds, xs, h, e => by
    obtain ⟨x, r, rfl, h1, h2⟩ := h
    rw [List.zip_cons_cons, List.lookup_cons] at e ⊢
    by_cases q : f == n
    · rw [q] at e ⊢
      cases e
      exact ⟨x, rfl, h1⟩
    · rw [Bool.not_eq_true] at q
      rw [q] at e ⊢
      exact reps_look h2 e
theorem owns_look {K : KB} {F H : Hp} {f : Str} {d : D} : ∀ {ns : List Str} {os : List O} {xs : List V} {fs : List Addr}, Owns K F H os xs fs → (ns.zip os).lookup f = some (.im d) → ∃ x, (ns.zip xs).lookup f = some x ∧ Rep K F d x
  | [], ds, xs, fs, h, e => by simp at e
  | n :: ns, [], xs, fs, h, e => by simp at e
  | n :: ns, o :: os, xs, fs, h, e => by
    obtain ⟨x, r, f1, f2, rfl, _, h1, h2⟩ := h
    rw [List.zip_cons_cons, List.lookup_cons] at e ⊢
    by_cases q : f == n
    · rw [q] at e ⊢
      cases e
      exact ⟨x, rfl, h1.2⟩
    · rw [Bool.not_eq_true] at q
      rw [q] at e ⊢
      exact owns_look h2 e
theorem di_fld {Cs : List Addr} {f : Str} (ha : DE X W a da) (hC : ∀ C ∈ Cs, Cls X.B C ∧ NoAttr X.B C f) (hb : attributeBase a f X.env (eval a X.env) = eval a X.env := by rfl) : DI X W (.Attribute a f pos) (dbind (ar1 da) (fldA Cs f)) := ⟨pe_weak (pe_fld ha.run hb) fun σ H Q q => by
  obtain ⟨c, F, e, ts, R, q⟩ := q
  refine ⟨c, F, e, ts, R, q.ar fun F1 H1 e1 x v ef hr q1 => ?_⟩
  obtain ⟨r, hr3, post⟩ := q1
  unfold fldA at hr3
  split at hr3
  · split at hr3
    · rename_i C ns ds hmem
      obtain ⟨z, hz, e3⟩ := Option.map_eq_some_iff.mp hr3
      subst e3
      obtain ⟨a, dx, xs, rfl, h1, _, h2⟩ := hr.2
      obtain ⟨w, hw, hrep⟩ := reps_look h2 hz
      exact ⟨a, C, dx, _, w, rfl, hr.1.fh _ _ h1, (hC C hmem).1, (hC C hmem).2, hw, post F1 H1 w (Ex.refl _) (fun _ => Ex.refl _) ⟨hr.1, hrep⟩⟩
    · cases hr3
  · cases hr3
  · split at hr3
    · split at hr3
      · rename_i k C ns os hs hmem
        obtain ⟨z, hz, e3⟩ := Option.map_eq_some_iff.mp hr3
        subst e3
        obtain ⟨b, hb⟩ := slotO_eq hs
        obtain ⟨w, fs, hw, a, dx, xs, rr, rfl, _, h1, _, h2⟩ := hr.1.slot hb
        have ev := hr.2
        dsimp only at ev
        rw [hw] at ev
        cases ev
        obtain ⟨w, hw, hrep⟩ := owns_look h2 (imO_eq hz)
        exact ⟨a, C, dx, _, w, rfl, h1, (hC C hmem).1, (hC C hmem).2, hw, post F1 H1 w (Ex.refl _) (fun _ => Ex.refl _) ⟨hr.1, hrep⟩⟩
      · cases hr3
    · cases hr3⟩
/-! ### built-in calls over what is seen -/
@[simp] def lenD : List D → Option D
  | [.str z] => if z.length ≤ sizeLine then some (.int z.length) else none
  | [.tup ds] => some (.int ds.length)
  | [.wtp ds] => some (.int ds.length)
  | [.lst ds] => some (.int ds.length)
  | [.scr ds] => some (.int ds.length)
  | _ => none
theorem reps1 {K : KB} {F : Hp} {d : D} {xs : List V} (h : Reps K F [d] xs) : ∃ v, xs = [v] ∧ Rep K F d v := by
  obtain ⟨x, r, rfl, h1, h2⟩ := h
  exact ⟨x, by rw [show r = [] from h2], h1⟩
theorem reps2 {K : KB} {F : Hp} {d d2 : D} {xs : List V} (h : Reps K F [d, d2] xs) : ∃ v v2, xs = [v, v2] ∧ Rep K F d v ∧ Rep K F d2 v2 := by
  obtain ⟨x, r, rfl, h1, h2⟩ := h
  obtain ⟨y, rfl, h3⟩ := reps1 h2
  exact ⟨x, y, rfl, h1, h3⟩
theorem ok_len : CallOkV X.B (fun xs H Q => ∃ x n, xs = [x] ∧ LenV X.B x H n ∧ Q (.int n) H) lenD := by
  intro H xs ds d h hg
  unfold lenD at hg
  split at hg
  · split at hg
    · rename_i hz
      cases hg
      obtain ⟨v, rfl, h1⟩ := reps1 h
      exact ⟨.int _, fun _ => rfl, fun Q q => ⟨v, _, rfl, by rw [show v = V.str _ from h1]; exact ⟨hz, rfl⟩, q⟩⟩
    · cases hg
  · cases hg
    obtain ⟨v, rfl, a, ys, rfl, h1, h2⟩ := reps1 h
    exact ⟨.int _, fun _ => rfl, fun Q q => ⟨_, _, rfl, .inr ⟨ys, h1, h2.length⟩, q⟩⟩
  · cases hg
    obtain ⟨v, rfl, a, ys, rfl, h1, h2⟩ := reps1 h
    exact ⟨.int _, fun _ => rfl, fun Q q => ⟨_, _, rfl, .inr ⟨ys, h1, h2.length⟩, q⟩⟩
  · cases hg
    obtain ⟨v, rfl, a, ys, rfl, h1, h2⟩ := reps1 h
    exact ⟨.int _, fun _ => rfl, fun Q q => ⟨_, _, rfl, .inl ⟨ys, SqL.of h1, h2.length⟩, q⟩⟩
  · cases hg
    obtain ⟨v, rfl, a, ys, rfl, h1, h2⟩ := reps1 h
    exact ⟨.int _, fun _ => rfl, fun Q q => ⟨_, _, rfl, .inl ⟨ys, h1, h2.length⟩, q⟩⟩
  · cases hg
@[simp] def absD : List D → Option D
  | [.int i] => some (.int (if i < 0 then -i else i))
  | _ => none
theorem ok_abs {K : KB} : CallOkV K (fun xs H Q => ∃ i, xs = [.int i] ∧ Q (.int (if i < 0 then -i else i)) H) absD := by
  intro H xs ds d h hg
  unfold absD at hg
  split at hg
  · cases hg
    exact ⟨.int _, fun _ => rfl, fun Q q => ⟨_, reps_int h, q⟩⟩
  · cases hg
@[simp] def minD : List D → Option D
  | [.int i, .int j] => some (.int (if j < i then j else i))
  | _ => none
@[simp] def maxD : List D → Option D
  | [.int i, .int j] => some (.int (if j > i then j else i))
  | _ => none
theorem ok_min {K : KB} : CallOkV K (fun xs H Q => ∃ i j, xs = [.int i, .int j] ∧ Q (.int (if j < i then j else i)) H) minD := by
  intro H xs ds d h hg
  unfold minD at hg
  split at hg
  · cases hg
    exact ⟨.int _, fun _ => rfl, fun Q q => ⟨_, _, reps_int2 h, q⟩⟩
  · cases hg
theorem ok_max {K : KB} : CallOkV K (fun xs H Q => ∃ i j, xs = [.int i, .int j] ∧ Q (.int (if j > i then j else i)) H) maxD := by
  intro H xs ds d h hg
  unfold maxD at hg
  split at hg
  · cases hg
    exact ⟨.int _, fun _ => rfl, fun Q q => ⟨_, _, reps_int2 h, q⟩⟩
  · cases hg
@[simp] def intD : List D → Option D
  | [.int i] => some (.int i)
  | [.bl k] => some (.int (if k then 1 else 0))
  | _ => none
theorem ok_int {K : KB} : CallOkV K (fun xs H Q => (∃ i, xs = [.int i] ∧ Q (.int i) H) ∨ ∃ k, xs = [.bl k] ∧ Q (.int (if k then 1 else 0)) H) intD := by
  intro H xs ds d h hg
  unfold intD at hg
  split at hg
  · cases hg
    exact ⟨.int _, fun _ => rfl, fun Q q => .inl ⟨_, reps_int h, q⟩⟩
  · cases hg
    obtain ⟨v, rfl, h1⟩ := reps1 h
    exact ⟨.int _, fun _ => rfl, fun Q q => .inr ⟨_, by rw [show v = V.bl _ from h1], q⟩⟩
  · cases hg
@[simp] def strD : List D → Option D
  | [.int i] => if i.natAbs.log2 < 1920 then some (.str (toString i)) else none
  | _ => none
theorem ok_str {K : KB} : CallOkV K (fun xs H Q => ∃ i, xs = [.int i] ∧ i.natAbs.log2 < 1920 ∧ Q (.str (toString i)) H) strD := by
  intro H xs ds d h hg
  unfold strD at hg
  split at hg
  · split at hg
    · rename_i hz
      cases hg
      exact ⟨.str _, fun _ => rfl, fun Q q => ⟨_, reps_int h, hz, q⟩⟩
    · cases hg
  · cases hg
/-- the ints of a list -/
def intsD : List D → Option (List Int)
  | [] => some []
  | .int i :: ds => (intsD ds).map fun is => i :: is
  | _ :: _ => none
theorem reps_ints {K : KB} {F : Hp} : ∀ {ds : List D} {xs : List V} {is : List Int}, Reps K F ds xs → intsD ds = some is → xs = is.map V.int
  | [], xs, is, h, e => by cases e; exact h
  | .int i :: ds, xs, is, h, e => by
    obtain ⟨x, r, rfl, h1, h2⟩ := h
    obtain ⟨js, hj, e2⟩ := Option.map_eq_some_iff.mp e
    subst e2
    rw [List.map_cons, ← reps_ints h2 hj, show x = V.int i from h1]
  | .any :: ds, xs, is, h, e => by cases e
  | .non :: ds, xs, is, h, e => by cases e
  | .bl _ :: ds, xs, is, h, e => by cases e
  | .str _ :: ds, xs, is, h, e => by cases e
  | .ty _ :: ds, xs, is, h, e => by cases e
  | .adr _ :: ds, xs, is, h, e => by cases e
  | .exc _ _ _ _ _ :: ds, xs, is, h, e => by cases e
  | .tup _ :: ds, xs, is, h, e => by cases e
  | .wtp _ :: ds, xs, is, h, e => by cases e
  | .lst _ :: ds, xs, is, h, e => by cases e
  | .scr _ :: ds, xs, is, h, e => by cases e
  | .dct _ _ :: ds, xs, is, h, e => by cases e
  | .ins _ _ _ :: ds, xs, is, h, e => by cases e
@[simp] def sumD : List D → Option D
  | [.lst ds] => (intsD ds).map fun is => .int is.sum
  | [.scr ds] => (intsD ds).map fun is => .int is.sum
  | _ => none
theorem ok_sum {K : KB} : CallOkV K (rSum K) sumD := by
  intro H xs ds d h hg
  unfold sumD at hg
  split at hg
  · obtain ⟨is, hi, rfl⟩ := Option.map_eq_some_iff.mp hg
    obtain ⟨v, rfl, a, ys, rfl, h1, h2⟩ := reps1 h
    have e := reps_ints h2 hi
    subst e
    exact ⟨.int _, fun _ => rfl, fun Q q => ⟨a, is, rfl, SqL.of h1, q⟩⟩
  · obtain ⟨is, hi, rfl⟩ := Option.map_eq_some_iff.mp hg
    obtain ⟨v, rfl, a, ys, rfl, h1, h2⟩ := reps1 h
    have e := reps_ints h2 hi
    subst e
    exact ⟨.int _, fun _ => rfl, fun Q q => ⟨a, is, rfl, h1, q⟩⟩
  · cases hg
/-- isinstance against a built-in class -/
@[simp] def tyD : D → Option String
  | .non => some "NoneType"
  | .bl _ => some "bool"
  | .int _ => some "int"
  | .str _ => some "str"
  | .tup _ => some "tuple"
  | .lst _ => some "list"
  | _ => none
theorem tyT {K : PySem.W.Frag} {H : Hp} {a : Addr} {xs : List V} (h : SqT K H a xs) : TyX K H (.ref a) (.type "tuple") := by
  rcases h with (h | ⟨o, h⟩) | ⟨o, its, n, h1, h2, _⟩
  · exact .base (.tup h)
  · exact .fTuple h
  · exact .kTuple h1 h2
theorem tyD_ok {K : KB} {H : Hp} {d : D} {v : V} {t : String} (h : Rep K H d v) (e : tyD d = some t) : TyX K H v (.type t) := by
  cases d with
  | non => cases e; rw [show v = V.non from h]; exact .base .non
  | bl b => cases e; rw [show v = V.bl b from h]; exact .base (.bl b)
  | int b => cases e; rw [show v = V.int b from h]; exact .base (.int b)
  | str b => cases e; rw [show v = V.str b from h]; exact .base (.str b)
  | tup ds => cases e; obtain ⟨a, xs, rfl, h1, _⟩ := h; exact tyT h1
  | lst ds => cases e; obtain ⟨a, xs, rfl, h1, _⟩ := h; exact .base (.lst h1)
  | _ => cases e
@[simp] def isiD : List D → Option D
  | [d, .ty n] => (tyD d).bind fun t => (kitB t n).map D.bl
  | _ => none
theorem ok_isi {K : KB} : CallOkV K (rIsi K) isiD := by
  intro H xs ds d h hg
  unfold isiD at hg
  split at hg
  · obtain ⟨t, ht, hk⟩ := Option.bind_eq_some_iff.mp hg
    obtain ⟨b, hb, rfl⟩ := Option.map_eq_some_iff.mp hk
    obtain ⟨v, v2, rfl, h1, h2⟩ := reps2 h
    exact ⟨.bl b, fun _ => rfl, fun Q q => ⟨v, v2, _, _, b, rfl, by rw [show v2 = V.ty _ from h2]; exact .ty _, tyD_ok h1 ht, kit_ty hb, q⟩⟩
  · cases hg
/-- a built-in class's name -/
theorem di_ty {x : Str} {n : String} (hg : Gl X x) (hm : X.mg x = none) (hv : bootBuiltins x = some (.type n)) (hn : x ≠ "__name__" := by decide) (hd : (x == ("__debug__" : Str)) = false := by decide) : DI X W (.Name x pos) (dpure (.ty n)) := di_c (pe_bltn (v := .ty n) hg hm hv rfl hn hd) fun _ => rfl
/-- a constant of the module -/
theorem di_gint {x : Str} {i : Int} {t : Tok} (hg : Gl X x) (hm : X.mg x = some (.int i t)) (hd : (x == ("__debug__" : Str)) = false := by decide) : DI X W (.Name x pos) (dpure (.int i)) := di_c (pe_glob (v := .int i) hg hm ⟨t, rfl⟩ hd) fun _ => rfl
theorem di_gstr {x : Str} {i : Str} {t : Tok} (hg : Gl X x) (hm : X.mg x = some (.str i t)) (hd : (x == ("__debug__" : Str)) = false := by decide) : DI X W (.Name x pos) (dpure (.str i)) := di_c (pe_glob (v := .str i) hg hm ⟨t, rfl⟩ hd) fun _ => rfl
/-! ### list(x), tuple(x) -/
def seqA (a : AR) : Den (List D) := fun e => match a with
  | .im d => (seqD d).map fun x => Res.ok false e x
  | .bor k => ((slotO e k).bind seqO).map fun x => Res.ok false e x
/-- a list or a tuple at hand -/
theorem seqA_ok {K : KB} {c : Ctx} {F H : Hp} {σ : L2.St} {e e' : Env} {ts : List (V × O)} {a : AR} {v : V} {ds : List D} {m : Bool} (h : relA1 K c F H σ e ts a v) (hs : seqA a e = some (.ok m e' ds)) : e' = e ∧ m = false ∧ ∃ p xs, v = .ref p ∧ Reps K F ds xs ∧ (SqL K H p xs ∨ SqT K H p xs) := by
  unfold seqA at hs
  cases a with
  | im d =>
    obtain ⟨z, hz, e3⟩ := Option.map_eq_some_iff.mp hs
    cases e3
    obtain ⟨p, xs, e1, h1, h2⟩ := seq_src h.2 hz
    refine ⟨rfl, rfl, p, xs, e1, h1, ?_⟩
    rcases h2 with h2 | h2
    · exact .inl (ex_l h.1.fh h2)
    · exact .inr (ex_t h.1.fh h2)
  | bor k =>
    obtain ⟨z, hz, e3⟩ := Option.map_eq_some_iff.mp hs
    cases e3
    obtain ⟨o, ho, hel⟩ := Option.bind_eq_some_iff.mp hz
    obtain ⟨b, hb⟩ := slotO_eq ho
    obtain ⟨w, fs, hw, how⟩ := h.1.slot hb
    have ev := h.2
    dsimp only at ev
    rw [hw] at ev
    cases ev
    cases o with
    | lst os =>
      have eo := ims_eq hel
      subst eo
      obtain ⟨a, xs, rr, rfl, _, ha, hos⟩ := how
      exact ⟨rfl, rfl, a, xs, rfl, (of_owns_im hos).1, .inl (SqL.of ha)⟩
    | tup os =>
      have eo := ims_eq hel
      subst eo
      obtain ⟨a, xs, rr, rfl, _, ha, hos⟩ := how
      exact ⟨rfl, rfl, a, xs, rfl, (of_owns_im hos).1, .inr (SqT.of ha)⟩
    | _ => cases hel
variable {x : Str}
def dlist (da : Den Rv) : Den Rv := dbind (ar1 da) fun a => dbind (seqA a) fun ds => dpure (.new (.lst (ds.map O.im)))
theorem de_list (hg : Gl X x) (hm : X.mg x = none) (hv : bootBuiltins x = some (.type "list")) (ha : DE X W a da) (hn : x ≠ "__name__" := by decide) (hdb : (x == ("__debug__" : Str)) = false := by decide)
    (he : starEach (a :: []) X.env = (false, eval a X.env) :: starEach [] X.env := by rfl) (hpl : (backTo pos (starEach [] X.env)).any (·.1) = false := by rfl) : DE X W (.Call (.Name x p) [a] [] pos) (dlist da) :=
  ⟨pe_weak (pe_callTy call_list_of hg hm hv (pa_cons ha.run pa_nil he) hn hdb he hpl) fun σ H Q q => by
    obtain ⟨c, F, e, ts, R, q⟩ := q
    refine ⟨c, F, e, ts, R, q.ar fun F1 H1 e1 x v ef hr q1 => ?_⟩
    obtain ⟨r, hr2, post⟩ := q1
    unfold dbind at hr2
    cases hs : seqA x e1 with
    | none => rw [hs] at hr2; cases hr2
    | some r1 =>
      rw [hs] at hr2
      cases r1 with
      | err m e2 y => unfold seqA at hs; cases x <;> (obtain ⟨_, _, z⟩ := Option.map_eq_some_iff.mp hs; cases z)
      | ok m e2 ds =>
        obtain ⟨rfl, rfl, p', xs, rfl, hrs, hsq⟩ := seqA_ok hr hs
        cases hr2
        exact ⟨p', xs, rfl, hsq, fun l hl => post F1 _ (.ref l) (Ex.refl _) (fun _ => Ex.new hl) (hr.1.newO hl ⟨l, xs, [], rfl, rfl, upd_same, owns_im hrs⟩)⟩⟩
/-- tuple(x) of a list: a new one; of a tuple: itself -/
def dtuple (da : Den Rv) : Den D := dbind (ar1 da) fun a e => match a with
  | .im (.lst ds) => some (.ok false e (.tup ds))
  | .im (.scr ds) => some (.ok false e (.tup ds))
  | .im (.tup ds) => some (.ok false e (.tup ds))
  | .im (.wtp ds) => some (.ok false e (.wtp ds))
  | .im _ => none
  | .bor k => match slotO e k with
    | some (.lst os) => (ims os).map fun ds => Res.ok false e (.tup ds)
    | _ => none
theorem di_tuple (hg : Gl X x) (hm : X.mg x = none) (hv : bootBuiltins x = some (.type "tuple")) (ha : DE X W a da) (hn : x ≠ "__name__" := by decide) (hdb : (x == ("__debug__" : Str)) = false := by decide)
    (he : starEach (a :: []) X.env = (false, eval a X.env) :: starEach [] X.env := by rfl) (hpl : (backTo pos (starEach [] X.env)).any (·.1) = false := by rfl) : DI X W (.Call (.Name x p) [a] [] pos) (dtuple da) :=
  ⟨pe_weak (pe_callTy call_tuple_of hg hm hv (pa_cons ha.run pa_nil he) hn hdb he hpl) fun σ H Q q => by
    obtain ⟨c, F, e, ts, R, q⟩ := q
    refine ⟨c, F, e, ts, R, q.ar fun F1 H1 e1 x v ef hr q1 => ?_⟩
    obtain ⟨r, hr2, post⟩ := q1
    have mk : ∀ {ds : List D} {p' : Addr} {xs : List V}, (∀ F' H' v, Ex F1 F' → (false = false → Ex H1 H') → relI X.B c F' H' σ e1 ts (.tup ds) v → Q v H') → Reps X.B F1 ds xs → SqL X.B H1 p' xs → v = .ref p' →
        ∃ p ys, [v] = [V.ref p] ∧ ((SqL X.B H1 p ys ∧ ∀ l, H1 l = none → Q (.ref l) (upd H1 l (.tup ys))) ∨ (SqT X.B H1 p ys ∧ Q (.ref p) H1)) := by
      intro ds p' xs po hrs hsq ev
      subst ev
      refine ⟨p', xs, rfl, .inl ⟨hsq, fun l hl => po (upd F1 l (.tup xs)) (upd H1 l (.tup xs)) (.ref l) (Ex.new (none_of_ex hr.1.fh hl)) (fun _ => Ex.new hl) ⟨hr.1.newF hl, l, xs, rfl, SqT.of upd_same, Reps.mono (Ex.new (none_of_ex hr.1.fh hl)) _ _ hrs⟩⟩⟩
    dsimp only at hr2
    split at hr2
    · cases hr2
      obtain ⟨p', xs, ev, h1, h2⟩ := hr.2
      exact mk post h2 (SqL.of (hr.1.fh _ _ h1)) ev
    · cases hr2
      obtain ⟨p', xs, ev, h1, h2⟩ := hr.2
      exact mk post h2 (ex_l hr.1.fh h1) ev
    · cases hr2
      obtain ⟨p', xs, rfl, h1, h2⟩ := id hr.2
      exact ⟨p', xs, rfl, .inr ⟨ex_t hr.1.fh h1, post F1 H1 _ (Ex.refl _) (fun _ => Ex.refl _) hr⟩⟩
    · cases hr2
      obtain ⟨p', xs, rfl, h1, h2⟩ := id hr.2
      exact ⟨p', xs, rfl, .inr ⟨ex_t hr.1.fh h1, post F1 H1 _ (Ex.refl _) (fun _ => Ex.refl _) hr⟩⟩
    · cases hr2
    · split at hr2
      · rename_i k os hs
        obtain ⟨ds, hz, e3⟩ := Option.map_eq_some_iff.mp hr2
        subst e3
        obtain ⟨b, hb⟩ := slotO_eq hs
        obtain ⟨w, fs, hw, how⟩ := hr.1.slot hb
        have ev := hr.2
        dsimp only at ev
        rw [hw] at ev
        cases ev
        have eo := ims_eq hz
        subst eo
        obtain ⟨a, xs, rr, ev, _, ha, hos⟩ := how
        exact mk post (of_owns_im hos).1 (SqL.of ha) ev
      · cases hr2⟩
/-! ### x[i] = e -/
def sstI (i : Nat) (de : Den D) (di : Den D) : SDen := sbind de fun x e1 => match slotO e1 i with
  | some _ => sbind di (fun k e => match e[i]?, k with
    | some (some (b, .lst os)), .int j => match ixN os.length j with
      | some n => match os[n]? with
        | some (.im _) => some (.nx true (e.set i (some (b, .lst (os.set n (.im x))))))
        | _ => none
      | none => none
    | _, _ => none) e1
  | none => none
theorem owns_set {K : KB} {F H : Hp} {x : V} {d : D} (hx : Rep K F d x) : ∀ {os : List O} {xs : List V} {fs : List Addr} {n : Nat} {d0 : D}, Owns K F H os xs fs → os[n]? = some (.im d0) → Owns K F H (os.set n (.im d)) (xs.set n x) fs
  | [], xs, fs, n, d0, h, e => by simp at e
  | o :: os, xs, fs, 0, d0, h, e => by
    have eo : o = .im d0 := by simpa using e
    subst eo
    obtain ⟨y, r, f1, f2, rfl, rfl, h1, h2⟩ := h
    exact ⟨x, r, f1, f2, rfl, rfl, ⟨h1.1, hx⟩, h2⟩
  | o :: os, xs, fs, n + 1, d0, h, e => by
    obtain ⟨y, r, f1, f2, rfl, rfl, h1, h2⟩ := h
    exact ⟨y, r.set n x, f1, f2, rfl, rfl, h1, owns_set hx h2 (by simpa using e)⟩
theorem ds_stI {i : Nat} {y : Str} {py spos : Pos} {dv : Den D} (hx : PE X (.Name y py) (tVar i)) (hv : DI X W ex dv) (hi : DI X W b di)
    (hst : ∀ {te ti}, PE X ex te → PE X b ti → PS X (.Assign [.Subscript (.Name y py) b p] ex spos) (tAsg te (gSub (tVar i) ti rSetL))) : DS X W (.Assign [.Subscript (.Name y py) b p] ex spos) (sstI i dv di) := ⟨ps_weak (hst hv.run hi.run) fun D0 σ H q => by
  obtain ⟨c, F, e, ts, R, q⟩ := q
  refine ⟨c, F, e, ts, R, q.sbind (rel := relI) fun F1 H1 e1 x v ef hr q1 => ?_⟩
  obtain ⟨r1, hr1, post1⟩ := q1
  dsimp only at hr1
  cases hs : slotO e1 i with
  | none => rw [hs] at hr1; cases hr1
  | some o0 =>
    rw [hs] at hr1
    obtain ⟨b0, hb0⟩ := slotO_eq hs
    obtain ⟨w0, fs0, hw0, _⟩ := hr.1.slot hb0
    refine ⟨w0, hw0, c, F1, e1, ts, hr.1, ?_⟩
    have q2 : AtS X.B W (sbind di (fun k e => match e[i]?, k with
      | some (some (b, .lst os)), .int j => match ixN os.length j with
        | some n => match os[n]? with
          | some (.im _) => some (.nx true (e.set i (some (b, .lst (os.set n (.im x))))))
          | _ => none
        | none => none
      | _, _ => none)) D0 c F1 σ e1 ts H1 := ⟨r1, hr1, post1⟩
    refine q2.sbind (rel := relI) fun F2 H2 e2 k u ef2 hr2 q3 => ?_
    obtain ⟨r3, hr3, post3⟩ := q3
    dsimp only at hr3
    split at hr3
    · rename_i bb os j he2
      split at hr3
      · rename_i n hn
        split at hr3
        · rename_i d0 hd0
          cases hr3
          obtain ⟨w, f0, hw, how, nd, fr, hc⟩ := hr2.1.mutSlot he2
          rw [hw0] at hw
          cases hw
          obtain ⟨a, xs, rr, rfl, rfl, ha, hos⟩ := how
          have hrx : Rep X.B F2 x v := Rep.mono ef2 _ _ hr.2
          have fa := fr a List.mem_cons_self
          refine ⟨a, xs, j, n, rfl, hr2.2, ha, by rw [← hos.length]; exact hn, ?_⟩
          refine post3 F2 _ σ (Ex.refl _) (fun z => by cases z) (hc F2 _ (.lst (os.set n (.im x))) (a :: rr) ⟨Ex.refl _, fun p u z => ?_, fun q u hq z => ?_, fun p hp => .inl hp⟩ ⟨a, xs.set n v, rr, rfl, rfl, upd_same, ?_⟩ nd fun q hq => ⟨.inl hq, fr q hq⟩)
          · rw [upd_ne (fun w => by subst w; rw [fa.1] at z; cases z)]
            exact hr2.1.fh p u z
          · rw [upd_ne (fun w => hq (by subst w; exact List.mem_cons_self))]
            exact z
          · refine Owns.mono (Ex.refl _) _ _ _ (fun p hp u z => ?_) (owns_set hrx hos hd0)
            rw [upd_ne (fun w => (List.nodup_cons.mp nd).1 (by subst w; exact hp))]
            exact z
        · cases hr3
      · cases hr3
    · cases hr3⟩
end
end DL

/-! DLL: what is owned, seen through: items and fields of what is nested; loops over it; tuples of what is owned. -/
namespace DL
open PySem PySem.Spec PyProof.Rows L2 Evl

/-- what stands there now, owned or frozen -/
def relW : Rel O V := fun K c F H σ e ts o v => RE K c F H σ e ts ∧ ∃ fs, Own K F H o v fs
structure DO (X : Cx) (W : WX) (ex : Expr) (den : Den O) : Prop where
  run : PE X ex (rd relW X.B W den)
def ow (d : Den Rv) : Den O := dbind d fun r => match r with
  | .im d => dpure (.im d)
  | .new o => dpure (.im o.flat)
  | .bor _ o => dpure o
def imD (d : Den O) : Den D := dbind d fun o => dlift (imO o)
def fl (d : Den O) : Den D := dbind d fun o => dpure o.flat
section
variable {X : Cx} {W : WX} {a b ex : Expr} {pos p : Pos} {da : Den Rv} {di : Den D}
theorem DE.o (h : DE X W ex da) : DO X W ex (ow da) := ⟨pe_weak h.run fun σ H Q q => by
  obtain ⟨c, F, e, ts, R, q⟩ := q
  refine ⟨c, F, e, ts, R, q.bind fun F1 H1 e1 x v ef hrel q2 => ?_⟩
  cases x with
  | im d => exact At.pure (a := O.im d) q2 F1 H1 v (Ex.refl _) (Ex.refl _) ⟨hrel.1, [], rfl, hrel.2⟩
  | new o =>
    obtain ⟨F3, e3, R3, h3⟩ := RE.freezeT hrel
    exact At.pure (a := O.im o.flat) q2 F3 H1 v e3 (Ex.refl _) ⟨R3, [], rfl, h3⟩
  | bor i o =>
    obtain ⟨R2, hv, b, hb⟩ := hrel
    obtain ⟨w, fs, hw, ho⟩ := R2.slot hb
    rw [hv] at hw
    cases hw
    exact At.pure (a := o) q2 F1 H1 v (Ex.refl _) (Ex.refl _) ⟨R2, fs, ho⟩⟩
theorem DO.i {d : Den O} (h : DO X W ex d) : DI X W ex (imD d) := ⟨pe_weak h.run fun σ H Q q => by
  obtain ⟨c, F, e, ts, R, q⟩ := q
  refine ⟨c, F, e, ts, R, q.bind (rel := relW) fun F1 H1 e1 x v ef hrel q2 => ?_⟩
  obtain ⟨d, hd, k⟩ := q2.lift
  cases x <;> cases hd
  exact k F1 H1 v (Ex.refl _) (Ex.refl _) ⟨hrel.1, hrel.2.choose_spec.2⟩⟩
theorem DO.v {d : Den O} (h : DO X W ex d) : DV X W ex (fl d) := ⟨pe_weak h.run fun σ H Q q => by
  obtain ⟨c, F, e, ts, R, q⟩ := q
  refine ⟨c, F, e, ts, R, q.bind (rel := relW) fun F1 H1 e1 x v ef hrel q2 => ?_⟩
  obtain ⟨R1, fs, ho⟩ := hrel
  exact At.pure (a := x.flat) q2 F1 H1 v (Ex.refl _) (Ex.refl _) ⟨R1, ho.view R1.fh⟩⟩
/-! ### items -/
@[simp] def elemOO : O → D → Option O
  | .lst os, .int i => atI os i
  | .tup os, .int i => atI os i
  | .im d, i => (elemD d i).map O.im
  | _, _ => none
def dixO (d : Den O) (di : Den D) : Den O := dbind d fun o => dbind (dq di) fun i => dlift (elemOO o i)
theorem atI_ownsO {K : KB} {F H : Hp} {os : List O} {xs : List V} {fs : List Addr} {i : Int} {o : O} (h : Owns K F H os xs fs) (e : atI os i = some o) : ∃ x f, atI xs i = some x ∧ Own K F H o x f := by
  unfold atI at e ⊢
  rw [h.length] at e
  obtain ⟨j, hj, e2⟩ := Option.bind_eq_some_iff.mp e
  have key : ∀ {os : List O} {xs : List V} {fs : List Addr} {j : Nat}, Owns K F H os xs fs → os[j]? = some o → ∃ x f, xs[j]? = some x ∧ Own K F H o x f := by
    intro os
    induction os with
    | nil => intro xs fs j _ z; simp at z
    | cons o0 os ih =>
      intro xs fs j h z
      obtain ⟨x, r, f1, f2, e1, _, h1, h2⟩ := h
      subst e1
      cases j with
      | zero =>
        have : o0 = o := by simpa using z
        subst this
        exact ⟨x, f1, rfl, h1⟩
      | succ j =>
        obtain ⟨y, f, hy, hr⟩ := ih h2 (by simpa using z)
        exact ⟨y, f, by simpa using hy, hr⟩
  obtain ⟨x, f, hx, hr⟩ := key h e2
  exact ⟨x, f, by rw [hj]; exact hx, hr⟩
theorem elemOO_ok {K : KB} {F H : Hp} {o x : O} {i : D} {v u : V} {fs : List Addr} {Q : VK} (fh : Ex F H) (h : Own K F H o v fs) (hi : Rep K F i u) (e : elemOO o i = some x) (k : ∀ w f, Own K F H x w f → Q w H) : rIx K v u H Q := by
  unfold elemOO at e
  split at e
  · obtain ⟨a, xs, r, rfl, _, h1, h2⟩ := h
    obtain ⟨w, f, hw, hr⟩ := atI_ownsO h2 e
    exact .inl ⟨a, xs, _, w, rfl, hi, SqL.of h1, hw, k w f hr⟩
  · obtain ⟨a, xs, r, rfl, _, h1, h2⟩ := h
    obtain ⟨w, f, hw, hr⟩ := atI_ownsO h2 e
    exact .inr (.inl ⟨a, xs, _, w, rfl, hi, SqT.of h1, hw, k w f hr⟩)
  · obtain ⟨d, hd, rfl⟩ := Option.map_eq_some_iff.mp e
    exact elemD_ok fh h.2 hi hd fun w hw => k w [] ⟨rfl, hw⟩
  · cases e
theorem do_ix {d : Den O} (ha : DO X W a d) (hb : DI X W b di) (hs : PlainIx b := by exact fun _ _ => rfl) : DO X W (.Subscript a b pos) (dixO d di) := ⟨pe_weak (pe_ix ix_seq ha.run hb.run hs) fun σ H Q q => by
  obtain ⟨c, F, e, ts, R, q⟩ := q
  refine ⟨c, F, e, ts, R, q.bind (rel := relW) fun F1 H1 e1 x v ef hr q1 => ⟨c, F1, e1, ts, hr.1, ?_⟩⟩
  have q2 := (q1.bind (rel := relI) (Q' := fun u H2 => Ex H1 H2 → rIx X.B v u H2 Q) fun F2 H2 e2 y u ef2 hr2 q2 ee => by
    obtain ⟨o, hd, k⟩ := q2.lift
    obtain ⟨fs, ho⟩ := hr.2
    exact elemOO_ok hr2.1.fh (Own.mono ef2 _ _ _ (fun p _ w z => ee p w z) ho) hr2.2 hd fun w f hw => k F2 H2 w (Ex.refl _) (Ex.refl _) ⟨hr2.1, f, hw⟩).quiet
  obtain ⟨rr, h1, post⟩ := q2
  refine ⟨rr, h1, ?_⟩
  cases rr with
  | err m e1 x => exact post
  | ok m e1 a => exact fun F' H' v' ef' eh hrel => let z := post F' H' v' ef' eh hrel; z.2 z.1 z.1⟩
/-! ### fields -/
def fldO (Cs : List Addr) (f : Str) : O → Option O
  | .im (.ins C ns ds) => if C ∈ Cs then ((ns.zip ds).lookup f).map O.im else none
  | .ins C ns os => if C ∈ Cs then (ns.zip os).lookup f else none
  | _ => none
theorem owns_lookO {K : KB} {F H : Hp} {f : Str} {o : O} : ∀ {ns : List Str} {os : List O} {xs : List V} {fs : List Addr}, Owns K F H os xs fs → (ns.zip os).lookup f = some o → ∃ x g, (ns.zip xs).lookup f = some x ∧ Own K F H o x g
  | [], ds, xs, fs, h, e => by simp at e
  | n :: ns, [], xs, fs, h, e => by simp at e
  | n :: ns, o0 :: os, xs, fs, h, e => by
    obtain ⟨x, r, f1, f2, rfl, _, h1, h2⟩ := h
    rw [List.zip_cons_cons, List.lookup_cons] at e ⊢
    by_cases q : f == n
    · rw [q] at e ⊢
      cases e
      exact ⟨x, f1, rfl, h1⟩
    · rw [Bool.not_eq_true] at q
      rw [q] at e ⊢
      exact owns_lookO h2 e
theorem do_fld {Cs : List Addr} {f : Str} {d : Den O} (ha : DO X W a d) (hC : ∀ C ∈ Cs, Cls X.B C ∧ NoAttr X.B C f) (hb : attributeBase a f X.env (eval a X.env) = eval a X.env := by rfl) : DO X W (.Attribute a f pos) (dbind d fun o => dlift (fldO Cs f o)) := ⟨pe_weak (pe_fld ha.run hb) fun σ H Q q => by
  obtain ⟨c, F, e, ts, R, q⟩ := q
  refine ⟨c, F, e, ts, R, q.bind (rel := relW) fun F1 H1 e1 x v ef hr q1 => ?_⟩
  obtain ⟨o, hd, k⟩ := q1.lift
  obtain ⟨R1, fs, ho⟩ := hr
  unfold fldO at hd
  split at hd
  · split at hd
    · rename_i C ns ds hmem
      obtain ⟨z, hz, rfl⟩ := Option.map_eq_some_iff.mp hd
      obtain ⟨_, a, dx, xs, rfl, h1, _, h2⟩ := ho
      obtain ⟨w, hw, hrep⟩ := reps_look h2 hz
      exact ⟨a, C, dx, _, w, rfl, R1.fh _ _ h1, (hC C hmem).1, (hC C hmem).2, hw, k F1 H1 w (Ex.refl _) (Ex.refl _) ⟨R1, [], rfl, hrep⟩⟩
    · cases hd
  · split at hd
    · rename_i C ns os hmem
      obtain ⟨a, dx, xs, rr, rfl, _, h1, _, h2⟩ := ho
      obtain ⟨w, g, hw, hrep⟩ := owns_lookO h2 hd
      exact ⟨a, C, dx, _, w, rfl, h1, (hC C hmem).1, (hC C hmem).2, hw, k F1 H1 w (Ex.refl _) (Ex.refl _) ⟨R1, g, hrep⟩⟩
    · cases hd
  · cases hd⟩
/-! ### slices, of lists that come new, of tuples, of texts -/
structure DP (X : Cx) (W : WX) (ex : Option Expr) (den : Den (Option Int)) : Prop where
  run : PO X ex (rd (fun K c F H σ e ts (a b : Option Int) => RE K c F H σ e ts ∧ a = b) X.B W den)
theorem po_weak {ex : Option Expr} {t t' : TO} (h : PO X ex t) (k : ∀ σ H Q, t' σ H Q → t σ H Q) : PO X ex t' := ⟨fun pins s σ H Q I r => h.run pins s σ H Q I (k σ H Q r)⟩
theorem dp_none : DP X W none (dpure none) := ⟨po_weak po_none fun σ H Q q => by
  obtain ⟨c, F, e, ts, R, q⟩ := q
  exact At.pure (a := Option.none) q F H Option.none (Ex.refl _) (Ex.refl _) ⟨R, rfl⟩⟩
@[simp] def partD : D → Option (Option Int)
  | .int i => some (some i)
  | _ => none
theorem dp_some (h : DI X W ex di) : DP X W (some ex) (dbind di fun d => dlift (partD d)) := ⟨po_weak (po_some h.run) fun σ H Q q => by
  obtain ⟨c, F, e, ts, R, q⟩ := q
  refine ⟨c, F, e, ts, R, q.bind (rel := relI) fun F1 H1 e1 x v ef hr q1 => ?_⟩
  obtain ⟨o, hd, k⟩ := q1.lift
  cases x <;> cases hd
  exact ⟨_, hr.2, k F1 H1 _ (Ex.refl _) (Ex.refl _) ⟨hr.1, rfl⟩⟩⟩
def cutD (xs : List D) (lo hi : Option Int) : List D := (xs.drop (HT.sIx xs.length 0 lo)).take (HT.sIx xs.length xs.length hi - HT.sIx xs.length 0 lo)
theorem Reps.drop {K : KB} {F : Hp} : ∀ {ds : List D} {xs : List V} (n : Nat), Reps K F ds xs → Reps K F (ds.drop n) (xs.drop n)
  | ds, xs, 0, h => h
  | [], xs, n + 1, h => by rw [show xs = [] from h]; rfl
  | d :: ds, xs, n + 1, h => by
    obtain ⟨x, r, rfl, _, h2⟩ := h
    exact Reps.drop n h2
theorem Reps.take {K : KB} {F : Hp} : ∀ {ds : List D} {xs : List V} (n : Nat), Reps K F ds xs → Reps K F (ds.take n) (xs.take n)
  | ds, xs, 0, h => rfl
  | [], xs, n + 1, h => by rw [show xs = [] from h]; rfl
  | d :: ds, xs, n + 1, h => by
    obtain ⟨x, r, rfl, h1, h2⟩ := h
    exact ⟨x, r.take n, rfl, h1, Reps.take n h2⟩
theorem reps_cut {K : KB} {F : Hp} {ds : List D} {xs : List V} {lo hi : Option Int} (h : Reps K F ds xs) : Reps K F (cutD ds lo hi) (cutV xs lo hi) := by
  unfold cutD cutV
  rw [h.length]
  exact (h.drop _).take _
/-- a cut of what is seen: a list's is new -/
def cutO (o : O) (lo hi : Option Int) : Option Rv := match o with
  | .im (.lst ds) => some (.new (.lst ((cutD ds lo hi).map O.im)))
  | .im (.scr ds) => some (.new (.lst ((cutD ds lo hi).map O.im)))
  | .lst os => (ims os).map fun ds => .new (.lst ((cutD ds lo hi).map O.im))
  | .im (.tup ds) => some (.im (.tup (cutD ds lo hi)))
  | .im (.str z) => if z.length ≤ sizeLine then some (.im (.str (cutS z lo hi))) else none
  | _ => none
def rSl3 (K : KB) : V → Option Int → Option Int → Hp → VK → Prop := fun x lo hi H Q => rSlL K x lo hi H Q ∨ rSlA K x lo hi H Q ∨ rSlS x lo hi H Q
theorem sl3 : SlR X (rSl3 X.B) := sl_list.or (sl_tupA.or sl_str)
def dslice (d : Den O) (dl dh : Den (Option Int)) : Den Rv := dbind d fun o => dbind (dq dl) fun lo => dbind (dq dh) fun hi => dlift (cutO o lo hi)
theorem de_slice {d : Den O} {lo hi : Option Expr} {dl dh : Den (Option Int)} {p2 : Pos} (ha : DO X W a d) (hl : DP X W lo dl) (hh : DP X W hi dh) : DE X W (.Subscript a (.Slice lo hi none p2) pos) (dslice d dl dh) := ⟨pe_weak (pe_slice sl3 ha.run hl.run hh.run) fun σ H Q q => by
  obtain ⟨c, F, e, ts, R, q⟩ := q
  refine ⟨c, F, e, ts, R, q.bind (rel := relW) fun F1 H1 e1 x v ef hr q1 => ⟨c, F1, e1, ts, hr.1, ?_⟩⟩
  have q2 := (q1.bind (rel := (fun K c F H σ e ts (a b : Option Int) => RE K c F H σ e ts ∧ a = b)) (Q' := fun l H2 => Ex H1 H2 → rd (fun K c F H σ e ts (a b : Option Int) => RE K c F H σ e ts ∧ a = b) X.B W dh σ H2 fun u H3 => rSl3 X.B v l u H3 Q) fun F2 H2 e2 l l' ef2 hr2 q2 ee => by
    obtain ⟨R2, rfl⟩ := hr2
    refine ⟨c, F2, e2, ts, R2, ?_⟩
    have q3 := (q2.bind (rel := (fun K c F H σ e ts (a b : Option Int) => RE K c F H σ e ts ∧ a = b)) (Q' := fun u H3 => Ex H2 H3 → rSl3 X.B v l u H3 Q) fun F3 H3 e3 h h' ef3 hr3 q3 ee3 => by
      obtain ⟨R3, rfl⟩ := hr3
      obtain ⟨rv, hd, k⟩ := q3.lift
      obtain ⟨fs, ho⟩ := hr.2
      have ho3 : Own X.B F3 H3 x v fs := Own.mono (ef2.trans ef3) _ _ _ (fun p _ w z => (ee.trans ee3) p w z) ho
      have lst : ∀ {ds : List D} {a : Addr} {xs : List V}, v = .ref a → Reps X.B F3 ds xs → SqL X.B H3 a xs → rv = .new (.lst ((cutD ds l h).map O.im)) → rSl3 X.B v l h H3 Q := by
        intro ds a xs ev hrs hsq erv
        subst ev
        subst erv
        exact .inl ⟨a, xs, rfl, hsq, fun p hp => k F3 _ (.ref p) (Ex.refl _) (Ex.new hp) (R3.newO hp ⟨p, _, [], rfl, rfl, upd_same, owns_im (reps_cut hrs)⟩)⟩
      have tup : ∀ {ds : List D} {a : Addr} {xs : List V}, v = .ref a → Reps X.B F3 ds xs → SqT X.B F3 a xs → rv = .im (.tup (cutD ds l h)) → rSl3 X.B v l h H3 Q := by
        intro ds a xs ev hrs hsq erv
        subst ev
        subst erv
        refine .inr (.inl ⟨a, xs, rfl, ex_t R3.fh hsq, fun hw => k F3 H3 (.ref a) (Ex.refl _) (Ex.refl _) ⟨R3, a, xs, rfl, hsq, ?_⟩, fun hne p hp => k (upd F3 p (.tup (cutV xs l h))) _ (.ref p) (Ex.new (none_of_ex R3.fh hp)) (Ex.new hp) ⟨R3.newF hp, p, _, rfl, SqT.of upd_same, Reps.mono (Ex.new (none_of_ex R3.fh hp)) _ _ (reps_cut hrs)⟩⟩)
        have : cutD ds l h = ds := by
          unfold cutD
          rw [hrs.length, hw.1, hw.2, List.drop_zero, ← hrs.length]
          exact List.take_length
        rw [this]
        exact hrs
      unfold cutO at hd
      split at hd
      · cases hd
        obtain ⟨_, a, xs, ev, h1, h2⟩ := ho3
        exact lst ev h2 (SqL.of (R3.fh _ _ h1)) rfl
      · cases hd
        obtain ⟨_, a, xs, ev, h1, h2⟩ := ho3
        exact lst ev h2 (ex_l R3.fh h1) rfl
      · obtain ⟨ds, hz, e5⟩ := Option.map_eq_some_iff.mp hd
        have eo := ims_eq hz
        subst eo
        obtain ⟨a, xs, rr, ev, _, h1, h2⟩ := ho3
        exact lst ev (of_owns_im h2).1 (SqL.of h1) e5.symm
      · cases hd
        obtain ⟨_, a, xs, ev, h1, h2⟩ := ho3
        exact tup ev h2 h1 rfl
      · split at hd
        · rename_i hz
          cases hd
          exact .inr (.inr ⟨_, ho3.2, hz, k F3 H3 _ (Ex.refl _) (Ex.refl _) ⟨R3, rfl⟩⟩)
        · cases hd
      · cases hd).quiet
    obtain ⟨rr, h1, post⟩ := q3
    refine ⟨rr, h1, ?_⟩
    cases rr with
    | err m e1 x => exact post
    | ok m e1 a => exact fun F' H' v' ef' eh hrel => let z := post F' H' v' ef' eh hrel; z.2 z.1 z.1).quiet
  obtain ⟨rr, h1, post⟩ := q2
  refine ⟨rr, h1, ?_⟩
  cases rr with
  | err m e1 x => exact post
  | ok m e1 a => exact fun F' H' v' ef' eh hrel => let z := post F' H' v' ef' eh hrel; z.2 z.1 z.1⟩
end
end DL

/-! DLM: chains; tuples of what is owned; a list within, appended to; the end. -/
namespace DL
open PySem PySem.Spec PyProof.Rows L2 Evl
section
variable {X : Cx} {W : WX} {a b cc ex : Expr} {pos p : Pos} {da db dc : Den D}
def dchain (da db dc : Den D) (g g' : D → D → Option Bool) : Den D := dbind da fun x => dbind (dq db) fun y => dbind (dlift (g x y)) fun k => if k then dbind (dq dc) fun z => dlift ((g' y z).map D.bl) else dpure (.bl false)
theorem At.toQ {α β : Type} {rel : Rel α β} {K : KB} {den : Den α} {c : Ctx} {F H : Hp} {σ : L2.St} {e : Env} {ts : List (V × O)} {Q : β → Hp → Prop} (h : At rel K W (dq den) c F σ e ts H (fun v H' => Ex H H' → Q v H')) : At rel K W den c F σ e ts H Q := by
  have q := h.quiet
  obtain ⟨rr, h1, post⟩ := q
  refine ⟨rr, h1, ?_⟩
  cases rr with
  | err m e1 x => exact post
  | ok m e1 a => exact fun F' H' v' ef' eh hrel => let z := post F' H' v' ef' eh hrel; z.2 z.1 z.1
theorem more_false {α β : Type} {x : Option (Res β)} : Res.more (α := α) false x = x := by
  cases x with
  | none => rfl
  | some r => cases r <;> rfl
theorem At.liftB {α γ δ : Type} {rel2 : Rel γ δ} {K : KB} {a : Option α} {f : α → Den γ} {c : Ctx} {F H : Hp} {σ : L2.St} {e : Env} {ts : List (V × O)} {Q : δ → Hp → Prop} (h : At rel2 K W (dbind (dlift a) f) c F σ e ts H Q) : ∃ x, a = some x ∧ At rel2 K W (f x) c F σ e ts H Q := by
  obtain ⟨r, hr, post⟩ := h
  cases a with
  | none => cases hr
  | some x =>
    have e1 : dbind (dlift (some x)) f e = f x e := more_false (α := α)
    rw [e1] at hr
    exact ⟨x, rfl, r, hr, post⟩
theorem chain_rd {r r' : R2} {g g' : D → D → Option Bool} (hg : CmpOk X.B r g) (hg' : CmpOk X.B r' g') {σ : L2.St} {H : Hp} {Q : VK} (q : rd relI X.B W (dchain da db dc g g') σ H Q) : tChain r r' (rd relV X.B W da) (rd relV X.B W db) (rd relV X.B W dc) σ H Q := by
  obtain ⟨c, F, e, ts, R, q⟩ := q
  refine ⟨c, F, e, ts, R, q.bind (rel := relV) fun F1 H1 e1 x v ef hr q1 => ⟨c, F1, e1, ts, hr.1, (q1.bind (rel := relV) (Q' := fun u H2 => Ex H1 H2 → _) fun F2 H2 e2 y u ef2 hr2 q2 ee => ?_).toQ⟩⟩
  obtain ⟨k, hgx, q3⟩ := q2.liftB
  refine hg H2 v u x y k (Rep.mono ee _ _ hr.2) hr2.2 hgx _ ⟨k, rfl, ?_⟩
  cases k with
  | false => exact iteF (At.pure (a := D.bl false) q3 F2 H2 _ (Ex.refl _) (Ex.refl _) ⟨hr2.1, rfl⟩)
  | true =>
    refine iteT ⟨c, F2, e2, ts, hr2.1, ?_⟩
    have q4 : At relI X.B W (dbind (dq dc) fun z => dlift ((g' y z).map D.bl)) c F2 σ e2 ts H2 Q := q3
    exact (q4.bind (rel := relV) (Q' := fun u' H3 => Ex H2 H3 → _) fun F3 H3 e3 z w ef3 hr3 q5 ee3 => by
      obtain ⟨d, hd, kk⟩ := q5.lift
      obtain ⟨b, hb, rfl⟩ := Option.map_eq_some_iff.mp hd
      exact hg' H3 u w y z b (Rep.mono ee3 _ _ hr2.2) hr3.2 hb Q (kk F3 H3 (.bl b) (Ex.refl _) (Ex.refl _) ⟨hr3.1, rfl⟩)).toQ
theorem di_chain {op op' : CmpOp} {r r' : R2} {g g' : D → D → Option Bool} (ho : OpR X (compareOp op) r) (ho' : OpR X (compareOp op') r') (hg : CmpOk X.B r g) (hg' : CmpOk X.B r' g') (ha : DV X W a da) (hb : DV X W b db) (hc : DV X W cc dc) (hm : lastMarks [op, op'] [b, cc] = false := by with_unfolding_all rfl) :
    DI X W (.Compare a [op, op'] [b, cc] pos) (dchain da db dc g g') := ⟨pe_weak (pe_chain ho ho' ha.run hb.run hc.run hm) fun σ H Q q => chain_rd hg hg' q⟩
theorem dt_chain {op op' : CmpOp} {r r' : R2} {g g' : D → D → Option Bool} (ho : OpR X (compareOp op) r) (ho' : OpR X (compareOp op') r') (hg : CmpOk X.B r g) (hg' : CmpOk X.B r' g') (ha : DV X W a da) (hb : DV X W b db) (hc : DV X W cc dc) (hm : lastMarks [op, op'] [b, cc] = false := by with_unfolding_all rfl) :
    DT X W (.Compare a [op, op'] [b, cc] pos) (dtB (dchain da db dc g g')) := ⟨pt_weak (pt_chain ho ho' ha.run hb.run hc.run hm) fun σ H Q q => chain_rd hg hg' (tB_rd q)⟩
variable {j : Nat} {p2 : Pos}
theorem dt_isN (ha : DV X W a da) : DT X W (.Compare a [.Is] [.Constant .none j p2] pos) (dtB (dbind da fun x => dlift (noneD x))) := ⟨pt_weak (pt_cmp (pc_isN ha.run)) fun σ H Q q => by
  obtain ⟨c, F, e, ts, R, q⟩ := tB_rd q
  refine ⟨c, F, e, ts, R, q.bind (rel := relV) fun F1 H1 e1 x v ef hr q1 => ?_⟩
  obtain ⟨d, hd, k⟩ := q1.lift
  have hx : x ≠ .any := fun z => by subst z; cases hd
  rw [rep_none hr.2 hx]
  have hd' : d = .bl (isNoneD x) := by cases x <;> first | exact absurd rfl hx | (cases hd; rfl)
  subst hd'
  exact k F1 H1 _ (Ex.refl _) (Ex.refl _) ⟨hr.1, rfl⟩⟩
theorem dt_isNot (ha : DV X W a da) : DT X W (.Compare a [.IsNot] [.Constant .none j p2] pos) (dtB (dbind da fun x => dlift (notNoneD x))) := ⟨pt_weak (pt_cmp (pc_notN ha.run)) fun σ H Q q => by
  obtain ⟨c, F, e, ts, R, q⟩ := tB_rd q
  refine ⟨c, F, e, ts, R, q.bind (rel := relV) fun F1 H1 e1 x v ef hr q1 => ?_⟩
  obtain ⟨d, hd, k⟩ := q1.lift
  have hx : x ≠ .any := fun z => by subst z; cases hd
  rw [rep_none hr.2 hx]
  have hd' : d = .bl (!isNoneD x) := by cases x <;> first | exact absurd rfl hx | (cases hd; rfl)
  subst hd'
  exact k F1 H1 _ (Ex.refl _) (Ex.refl _) ⟨hr.1, rfl⟩⟩

/-! ### tuples of what is owned -/
/-- the values as temporaries, in their order -/
def relT : Rel (List O) (List V) := fun K c F H σ e ts os vs => RE K c F H σ e (vs.zip os ++ ts) ∧ os.length = vs.length
structure DTM (X : Cx) (W : WX) (es : List Expr) (den : Den (List O)) : Prop where
  run : PA X es (rd relT X.B W den)
theorem At.bindT {α β γ δ : Type} {rel : Rel α β} {rel2 : Rel γ δ} {K : KB} {W : WX} {den : Den α} {f : α → Den γ} {c : Ctx} {F H : Hp} {σ : L2.St} {e : Env} {ts ts' : List (V × O)} {Q : δ → Hp → Prop} {Q' : β → Hp → Prop}
    (h : At rel2 K W (dbind den f) c F σ e ts H Q) (hd0 : ∀ F' H' e', RE K c F' H' σ e' ts' → RE K c F' H' σ e' ts) (k : ∀ F1 H1 e1 a v, Ex F F1 → rel K c F1 H1 σ e1 ts' a v → At rel2 K W (f a) c F1 σ e1 ts H1 Q → Q' v H1) : At rel K W den c F σ e ts' H Q' := by
  obtain ⟨r, hr, post⟩ := h
  unfold dbind at hr
  cases hd : den e with
  | none => rw [hd] at hr; cases hr
  | some r1 =>
    rw [hd] at hr
    cases r1 with
    | err m e1 x =>
      cases hr
      exact ⟨_, hd, fun F' H' cls d ef eh R hx => post F' H' cls d ef eh (hd0 F' H' e1 R) hx⟩
    | ok m e1 a =>
      refine ⟨_, hd, fun F1 H1 v ef eh hrel => k F1 H1 e1 a v ef hrel ?_⟩
      dsimp only at hr
      cases hf : f a e1 with
      | none => rw [hf] at hr; cases hr
      | some r2 =>
        rw [hf] at hr
        refine ⟨r2, hf, ?_⟩
        cases r2 with
        | err m2 e2 x =>
          cases hr
          exact fun F' H' cls d ef' eh' R hx => post F' H' cls d (ef.trans ef') (fun z => (eh (or_l z)).trans (eh' (or_r z))) R hx
        | ok m2 e2 b =>
          cases hr
          exact fun F' H' w ef' eh' hrel' => post F' H' w (ef.trans ef') (fun z => (eh (or_l z)).trans (eh' (or_r z))) hrel'
/-- a slot's holding is moved -/
def rvM (rv : Rv) : Den O := fun e => match rv with
  | .im d => some (.ok false e (.im d))
  | .new o => some (.ok false e o)
  | .bor i _ => match e[i]? with
    | some (some (false, o)) => some (.ok false (e.set i none) o)
    | some (some (true, o)) => some (.ok false (e.set i (some (true, .im o.flat))) (.im o.flat))
    | _ => none
theorem rvM_ok {K : KB} {c : Ctx} {F H : Hp} {σ : L2.St} {e e' : Env} {ts : List (V × O)} {rv : Rv} {v : V} {o : O} {m : Bool} (h : relR K c F H σ e ts rv v) (hr : rvM rv e = some (.ok m e' o)) : m = false ∧ ∃ F', Ex F F' ∧ RE K c F' H σ e' ((v, o) :: ts) := by
  unfold rvM at hr
  cases rv with
  | im d => cases hr; exact ⟨rfl, F, Ex.refl _, h.1.imT h.2⟩
  | new o' => cases hr; exact ⟨rfl, F, Ex.refl _, h⟩
  | bor i o' =>
    obtain ⟨R, hv, b, hb⟩ := h
    dsimp only at hr
    rw [hb] at hr
    cases b with
    | false =>
      cases hr
      obtain ⟨w, hw, _, R2⟩ := R.out hb
      rw [hv] at hw
      cases hw
      exact ⟨rfl, F, Ex.refl _, R2⟩
    | true =>
      cases hr
      obtain ⟨F2, w, e2, hw, R2, hrep⟩ := R.freezeS hb
      rw [hv] at hw
      cases hw
      exact ⟨rfl, F2, e2, R2.imT hrep⟩
theorem dtm_nil : DTM X W [] (dpure []) := ⟨pa_weak pa_nil fun σ H Q q => by
  obtain ⟨c, F, e, ts, R, q⟩ := q
  exact At.pure q F H [] (Ex.refl _) (Ex.refl _) ⟨R, rfl⟩⟩
def dtmc (d : Den Rv) (ds : Den (List O)) : Den (List O) := dbind d fun rv => dbind (rvM rv) fun o => dbind ds fun os => dpure (o :: os)
theorem dtm_cons {es : List Expr} {de : Den Rv} {ds : Den (List O)} (h : DE X W a de) (hr : DTM X W es ds) (hs : starEach (a :: es) X.env = (false, eval a X.env) :: starEach es X.env := by rfl) : DTM X W (a :: es) (dtmc de ds) := ⟨pa_weak (pa_cons h.run hr.run hs) fun σ H Q q => by
  obtain ⟨c, F, e, ts, R, q⟩ := q
  refine ⟨c, F, e, ts, R, q.bind (rel := relR) fun F1 H1 e1 rv v ef hrel q1 => ?_⟩
  obtain ⟨r, hr2, post⟩ := q1
  unfold dbind at hr2
  cases hm : rvM rv e1 with
  | none => rw [hm] at hr2; cases hr2
  | some r1 =>
    rw [hm] at hr2
    cases r1 with
    | err m e2 x => unfold rvM at hm; cases rv <;> first | cases hm | (dsimp only at hm; split at hm <;> cases hm)
    | ok m e2 o =>
      obtain ⟨rfl, F2, ef2, R2⟩ := rvM_ok hrel hm
      dsimp only at hr2
      have q2 : At relT X.B W (dbind ds fun os => dpure (o :: os)) c F2 σ e2 ts H1 Q := by
        cases hd : (dbind ds fun os => dpure (o :: os)) e2 with
        | none => unfold dbind at hd; rw [hd] at hr2; cases hr2
        | some r3 =>
          have hd' := hd
          unfold dbind at hd
          rw [hd] at hr2
          refine ⟨r3, hd', ?_⟩
          cases r3 with
          | ok m3 e3 a3 => cases hr2; exact fun F' H' w ef' eh' hrel' => post F' H' w (ef2.trans ef') eh' hrel'
          | err m3 e3 x3 => cases hr2; exact fun F' H' cls d ef' eh' R hx => post F' H' cls d (ef2.trans ef') eh' R hx
      refine ⟨c, F2, e2, (v, o) :: ts, R2, q2.bindT (rel := relT) (fun F' H' e' R' => R'.drop) fun F3 H3 e3 os vs ef3 hr3 q3 => ?_⟩
      refine At.pure q3 F3 H3 (v :: vs) (Ex.refl _) (Ex.refl _) ⟨?_, by rw [List.length_cons, List.length_cons, hr3.2]⟩
      exact hr3.1.perm List.perm_middle⟩
theorem held_owns {K : KB} {F H : Hp} : ∀ {os : List O} {vs : List V} {fs : List Addr}, os.length = vs.length → Held K F H (vs.zip os) fs → Owns K F H os vs fs
  | [], [], fs, _, h => ⟨rfl, h⟩
  | o :: os, v :: vs, fs, hl, h => by
    obtain ⟨f1, f2, e1, h1, h2⟩ := h
    exact ⟨v, vs, f1, f2, rfl, e1, h1, held_owns (by simpa using hl) h2⟩
  | [], _ :: _, _, h, _ => by simp at h
  | _ :: _, [], _, h, _ => by simp at h
theorem owns_held {K : KB} {F H : Hp} : ∀ {os : List O} {vs : List V} {fs : List Addr}, Owns K F H os vs fs → Held K F H (vs.zip os) fs
  | [], vs, fs, h => by rw [h.1]; exact h.2
  | o :: os, vs, fs, h => by
    obtain ⟨x, r, f1, f2, rfl, e, h1, h2⟩ := h
    exact ⟨f1, f2, e, h1, owns_held h2⟩
/-- the temporaries, put into a new object -/
theorem RE.pack {K : KB} {c : Ctx} {F H : Hp} {σ : L2.St} {e : Env} {ts : List (V × O)} {os : List O} {vs : List V} {l : Addr} {u : HO} {o : O} (R : RE K c F H σ e (vs.zip os ++ ts)) (hz : os.length = vs.length) (hl : H l = none)
    (mk : ∀ fs H', H' l = some u → Owns K F H' os vs fs → Own K F H' o (.ref l) (l :: fs)) : RE K c F (upd H l u) σ e ((.ref l, o) :: ts) := by
  obtain ⟨hs, fs, h1, h2, h3, h4⟩ := R.hd
  rw [List.append_assoc] at h2
  obtain ⟨f1, f2, e1, h5, h6⟩ := h2.split
  subst e1
  have th : ∀ p ∈ f1 ++ f2, H p ≠ none := fun p hp => by
    rcases List.mem_append.mp hp with z | z
    · exact Held.there h5 p z
    · exact Held.there h6 p z
  have ne : l ∉ f1 ++ f2 := fun z => th l z hl
  have kp : ∀ p ∈ f1 ++ f2, ∀ w, H p = some w → upd H l u p = some w := fun p hp w z => by rw [upd_ne (fun q => ne (by rw [← q]; exact hp))]; exact z
  refine ⟨R.g.trans (Ex.new hl), R.f0, R.fh.trans (Ex.new hl), R.nw, hs, (l :: f1) ++ f2, h1, ⟨l :: f1, f2, rfl, mk f1 _ upd_same (Owns.mono (Ex.refl _) _ _ _ (fun p hp => kp p (List.mem_append_left _ hp)) (held_owns hz h5)), Held.mono (Ex.refl _) (fun p hp => kp p (List.mem_append_right _ hp)) h6⟩, List.nodup_cons.mpr ⟨ne, h3⟩, fun p hp => ?_⟩
  rcases List.mem_cons.mp (show p ∈ l :: (f1 ++ f2) from hp) with z | z
  · rw [z]
    exact ⟨none_of_ex R.fh hl, none_of_ex R.g hl⟩
  · exact h4 p z
def dtupN (ds : Den (List O)) : Den Rv := dbind ds fun os => dlift (if os.length ≤ sizeLine then some (.new (.tup os)) else none)
theorem de_tupN {n1} {es : List Expr} {ds : Den (List O)} (h : DTM X W es ds) : DE X W (.Tuple es n1 pos) (dtupN ds) := ⟨pe_weak (pe_tup h.run) fun σ H Q q => by
  obtain ⟨c, F, e, ts, R, q⟩ := q
  refine ⟨c, F, e, ts, R, q.bindT (rel := relT) (ts' := ts) (fun _ _ _ R => R) fun F1 H1 e1 os vs ef hr q1 => ?_⟩
  obtain ⟨d, hd, k⟩ := q1.lift
  split at hd
  · rename_i hz
    cases hd
    exact ⟨by rw [← hr.2]; exact hz, fun l hl => k F1 _ (.ref l) (Ex.refl _) (Ex.new hl) (hr.1.pack hr.2 hl fun fs H' h1 h2 => ⟨l, vs, fs, rfl, rfl, h1, h2⟩)⟩
  · cases hd⟩
end
end DL

/-! DLN: a list within what a slot holds, appended to; constants; the law's end. -/
namespace DL
open PySem PySem.Spec PyProof.Rows L2 Evl
section
variable {X : Cx} {W : WX} {a b ex : Expr} {pos p p2 px apos : Pos} {x : Str}
theorem di_gI {x : Str} {i : Int} (hg : Gl X x) (hm : ∃ t, X.mg x = some (.int i t)) (hd : (x == ("__debug__" : Str)) = false := by decide) : DI X W (.Name x pos) (dpure (.int i)) := by
  obtain ⟨t, ht⟩ := hm
  exact di_gint hg ht hd
theorem di_gS {x : Str} {i : Str} (hg : Gl X x) (hm : ∃ t, X.mg x = some (.str i t)) (hd : (x == ("__debug__" : Str)) = false := by decide) : DI X W (.Name x pos) (dpure (.str i)) := by
  obtain ⟨t, ht⟩ := hm
  exact di_gstr hg ht hd
/-- one of several is changed where it stands -/
theorem owns_at {K : KB} {F H : Hp} : ∀ {os : List O} {xs : List V} {fs : List Addr} {n : Nat} {o : O}, Owns K F H os xs fs → os[n]? = some o → ∃ x f1 f0 f2, xs[n]? = some x ∧ fs = f1 ++ (f0 ++ f2) ∧ Own K F H o x f0 ∧
    ∀ (H' : Hp) (o' : O), (∀ q ∈ f1 ++ f2, ∀ u, H q = some u → H' q = some u) → Own K F H' o' x f0 → Owns K F H' (os.set n o') xs fs
  | [], xs, fs, n, o, h, e => by simp at e
  | o0 :: os, xs, fs, 0, o, h, e => by
    have eo : o0 = o := by simpa using e
    subst eo
    obtain ⟨y, r, f1, f2, rfl, rfl, h1, h2⟩ := h
    exact ⟨y, [], f1, f2, rfl, rfl, h1, fun H' o' k ho => ⟨y, r, f1, f2, rfl, rfl, ho, Owns.mono (Ex.refl _) _ _ _ (fun q hq => k q hq) h2⟩⟩
  | o0 :: os, xs, fs, n + 1, o, h, e => by
    obtain ⟨y, r, f1, f2, rfl, rfl, h1, h2⟩ := h
    obtain ⟨x, g1, g0, g2, k1, k2, k3, k4⟩ := owns_at h2 (show os[n]? = some o by simpa using e)
    subst k2
    refine ⟨x, f1 ++ g1, g0, g2, by simpa using k1, by rw [List.append_assoc], k3, fun H' o' k ho => ⟨y, r, f1, g1 ++ (g0 ++ g2), rfl, rfl, Own.mono (Ex.refl _) _ _ _ (fun q hq => k q (by simp [hq])) h1, k4 H' o' (fun q hq => k q ?_) ho⟩⟩
    rcases List.mem_append.mp hq with z | z <;> simp [z]
/-- x[k].append(e), k written -/
def sappI (i : Nat) (k : Int) (de : Den D) : SDen := fun e0 => match slotO e0 i with
  | some (.tup os0) => match atI os0 k with
    | some (.lst _) => sbind (dq de) (fun d e => match e[i]? with
      | some (some (b, .tup os)) => match ixN os.length k with
        | some n => match os[n]? with
          | some (.lst ls) => if ls.length < sizeLine then some (.nx true (e.set i (some (b, .tup (os.set n (.lst (ls ++ [.im d])))))) ) else none
          | _ => none
        | none => none
      | _ => none) e0
    | _ => none
  | _ => none
theorem ds_appI {i : Nat} {k : Int} {de : Den D} {j : Nat} (h : DI X W a de)
    (hpe : ∀ {t : TA}, PA X [a] t → PE X (.Call (.Attribute (.Subscript (.Name x px) (.Constant (.int k) j p2) p) "append" apos) [a] [] pos) (tBM X.B "list" rAppend (tOp (rIx X.B) (tVar i) (tC (.int k))) t))
    (hs0 : starEach (a :: []) X.env = (false, eval a X.env) :: starEach [] X.env := by rfl) {spos : Pos} (hs : swapsWith (.Call (.Attribute (.Subscript (.Name x px) (.Constant (.int k) j p2) p) "append" apos) [a] [] pos) none spos.line X.env = pure false := by rfl) :
    DS X W (.Expr (.Call (.Attribute (.Subscript (.Name x px) (.Constant (.int k) j p2) p) "append" apos) [a] [] pos) spos) (sappI i k de) :=
  ⟨ps_weak (ps_expr (hpe (pa_cons h.run pa_nil hs0)) hs) fun D0 σ H q => by
    obtain ⟨c, F, e, ts, R, r, hr, post⟩ := q
    unfold sappI at hr
    cases hsl : slotO e i with
    | none => rw [hsl] at hr; cases hr
    | some o0 =>
      rw [hsl] at hr
      cases o0 with
      | tup os0 =>
        dsimp only at hr
        cases hat : atI os0 k with
        | none => rw [hat] at hr; cases hr
        | some o1 =>
          rw [hat] at hr
          cases o1 with
          | lst ls0 =>
            obtain ⟨b, hb⟩ := slotO_eq hsl
            obtain ⟨v, fs, hv, av, xs, rr, rfl, _, hav, hos⟩ := R.slot hb
            obtain ⟨w, f, hw, aw, ys, rr2, rfl, _, haw, hos2⟩ := atI_ownsO hos hat
            refine ⟨.ref av, hv, .inr (.inl ⟨av, xs, k, .ref aw, rfl, rfl, SqT.of hav, hw, .inl ⟨rfl, ys, SqL.of haw⟩, c, F, e, ts, R, ?_⟩)⟩
            have q0 : AtS X.B W (sbind (dq de) (fun d e => match e[i]? with
              | some (some (b, .tup os)) => match ixN os.length k with
                | some n => match os[n]? with
                  | some (.lst ls) => if ls.length < sizeLine then some (.nx true (e.set i (some (b, .tup (os.set n (.lst (ls ++ [.im d])))))) ) else none
                  | _ => none
                | none => none
              | _ => none)) D0 c F σ e ts H := ⟨r, hr, post⟩
            refine (q0.sbind (rel := relI) (Q' := fun x H1 => Ex H H1 → tNil σ H1 fun vs H2 => rAppend (.ref aw) (x :: vs) H2 fun _ H3 => D0.nx σ H3) fun F1 H1 e1 d w ef hr1 q1 ee => ?_).toQ
            obtain ⟨r1, hr2, post1⟩ := q1
            dsimp only at hr2
            split at hr2
            · rename_i bb os he1
              split at hr2
              · rename_i n hn
                split at hr2
                · rename_i ls hls
                  split at hr2
                  · rename_i hz
                    cases hr2
                    obtain ⟨v1, f0, hv1, how, nd, fr, hc⟩ := hr1.1.mutSlot he1
                    rw [hv] at hv1
                    cases hv1
                    obtain ⟨av', xs1, rr1, ea, rfl, hav1, hos1⟩ := how
                    cases ea
                    have hxs : xs1 = xs := by
                      have := ee _ _ hav
                      rw [hav1] at this
                      cases this
                      rfl
                    subst hxs
                    obtain ⟨x, g1, g0, g2, k1, k2, k3, k4⟩ := owns_at hos1 hls
                    have hx : x = .ref aw := by
                      unfold atI at hw
                      rw [← hos1.length] at hw
                      obtain ⟨n', hn', hw'⟩ := Option.bind_eq_some_iff.mp hw
                      rw [hn] at hn'
                      cases hn'
                      rw [k1] at hw'
                      cases hw'
                      rfl
                    subst hx
                    subst k2
                    obtain ⟨aw', ys1, r3, ea, rfl, haw1, hos3⟩ := k3
                    cases ea
                    have faw := fr aw (by simp)
                    have nd2 := List.nodup_cons.mp nd
                    obtain ⟨dj, _⟩ := nodup_mid nd2.2
                    have hin : aw ∈ aw :: r3 := List.mem_cons_self
                    have kp : ∀ q, q ≠ aw → ∀ u, H1 q = some u → upd H1 aw (.lst (ys1 ++ [w])) q = some u := fun q hq u z => by rw [upd_ne hq]; exact z
                    have hne : av ≠ aw := fun z => nd2.1 (by rw [z]; simp)
                    refine ⟨aw, ys1, w, rfl, rfl, haw1, by rw [← hos3.length]; exact hz, ?_⟩
                    refine post1 F1 _ σ (Ex.refl _) (fun z => by cases z) (hc F1 _ (.tup (os.set n (.lst (ls ++ [.im d])))) (av :: (g1 ++ ((aw :: r3) ++ g2))) ⟨Ex.refl _, fun p u z => kp p (fun q => by subst q; rw [faw.1] at z; cases z) u (hr1.1.fh p u z), fun q u hq z => kp q (fun e => hq (by subst e; simp)) u z, fun p hp => .inl hp⟩
                      ⟨av, xs1, _, rfl, rfl, by rw [upd_ne hne]; exact hav1, k4 _ _ (fun q hq u z => kp q (fun e => ?_) u z) ⟨aw, ys1 ++ [w], r3, rfl, rfl, upd_same, ?_⟩⟩ nd fun q hq => ⟨.inl hq, fr q hq⟩)
                    · subst e
                      rcases List.mem_append.mp hq with z | z
                      · exact (dj q hin).1 z
                      · exact (dj q hin).2 z
                    · have nd3 : aw ∉ r3 := fun z => by
                        have := (List.nodup_append.mp (List.nodup_append.mp nd2.2).2.1).1
                        exact (List.nodup_cons.mp this).1 z
                      have h1 := Owns.append (Owns.mono (F' := F1) (H' := upd H1 aw (.lst (ys1 ++ [w]))) (Ex.refl _) _ _ _ (fun q hq u z => kp q (fun e => nd3 (by rw [← e]; exact hq)) u z) hos3) (show Owns X.B F1 (upd H1 aw (.lst (ys1 ++ [w]))) [.im d] [w] [] from ⟨w, [], [], [], rfl, rfl, ⟨rfl, hr1.2⟩, rfl, rfl⟩)
                      rwa [List.append_nil] at h1
                  · cases hr2
                · cases hr2
              · cases hr2
            · cases hr2
          | _ => cases hr
      | _ => cases hr⟩
end
/-! ### the end -/
theorem law_spec {K : KB} {H : Hp} {a : Addr} {ns : List Int} {f : FDen} (hS : SqL K H a (ns.map V.int)) (hf : ∃ m os, f [.im (.scr (ns.map D.int))] = some (.ok m os (.im (.bl true)))) : spD K 1 f [V.ref a] H (fun v x => v = V.bl true) (fun _ _ _ => False) := by
  obtain ⟨m, os, hf⟩ := hf
  have hr : Reps K H (ns.map D.int) (ns.map V.int) := by
    have key : ∀ l : List Int, Reps K H (l.map D.int) (l.map V.int) := by
      intro l
      induction l with
      | nil => exact rfl
      | cons a l ih => exact ⟨_, _, rfl, rfl, ih⟩
    exact key ns
  refine ⟨rfl, H, [.im (.scr (ns.map D.int))], [], _, rfl, ⟨[], [], rfl, ⟨rfl, a, _, rfl, hS, hr⟩, rfl⟩, List.nodup_nil, fun p hp => (nomatch hp), Ex.refl _, hf, ?_⟩
  intro F' H' v fs' _ _ _ _ _ hrep _ _ _
  exact hrep
theorem walkD {α : Type} {l : PySem.W.OpenLaw} {k : Nat} {q : Program} {loose : List Str} {XP : (Str → Option Value) → Heap → Prop} {YP : World → Heap → Prop} {d : DefRec} {K : Params → PySem.W.Frag} {x : Str} {f : α → FDen} {G : α → Prop} (hn : l.most = some 63) (hdf : d.params.defaults = []) (hroom : Room k callerA)
    (hY : ∀ (w : World) (h : Heap), YP w h → (K w.params).In h) (hf : ∀ A, G A → ∀ ns : List Int, ns.length ≤ 63 → ∃ m os, f A [.im (.scr (ns.map D.int))] = some (.ok m os (.im (.bl true))))
    (F : ∀ (w : World) (mg : Str → Option Value) (fa : Addr) (h : Heap), (K w.params).In h → h.Ns mainGlobals mg → mg d.name = some (.ref fa) →
      ∃ (fd : FuncData) (A : α), G A ∧ (∀ (s : Shared) (u : Value), BindsTo s fd ⟨[u], []⟩ [(x, u)]) ∧ ∀ base : Heap, (K w.params).In base → base.Ns mainGlobals mg → FnOk l.prog w (K w.params) mg base (L2.CX l.prog w) k fa fd [x] (spD ⟨K w.params, l.prog, w, mg⟩ 1 (f A))) :
    PySem.W.WalkO q loose XP YP l.row.toRowW d [] (fun f vs => PySem.call f vs) :=
  L2.walk_of (n := 63) (k := k) (x := x) (CX := fun w => L2.CX l.prog w) (sp := fun w vs H Q E => vs.length = 1 ∧ ∀ mg A, G A → spD ⟨K w.params, l.prog, w, mg⟩ 1 (f A) vs H Q E) hn (by decide) hdf hroom hY (fun w mg fa h h1 h2 h3 => by
      obtain ⟨fd, A, gA, hb, hF⟩ := F w mg fa h h1 h2 h3
      exact ⟨fd, hb, fun base b1 b2 => (hF base b1 b2).imp fun vs H Q E z => z.2 mg A gA⟩) (fun _ _ a ns hl _ hS => ⟨rfl, fun _ A gA => law_spec hS (hf A gA ns hl)⟩) fun _ _ _ _ _ z => by
    obtain ⟨_, _, _, _, _, _, _, _, _, _, _, _, z⟩ := z
    exact z
end DL

/-! DLO: denotations reckoned: what must hold so that they end as wanted. -/
namespace DL
open PySem PySem.Spec PyProof.Rows L2 Evl

/-- an expression's denotation ends well; q: and changed nothing -/
def EW {α : Type} (q : Bool) (d : Den α) (e : Env) (P : α → Env → Prop) : Prop := ∃ m e' a, d e = some (.ok m e' a) ∧ (q = true → m = false) ∧ P a e'
/-- a statement's; N: it goes on, R: it returns, B: it breaks, C: it continues -/
structure Aft where
  N : Env → Prop
  R : Rv → Env → Prop
  B : Env → Prop := fun _ => False
  C : Env → Prop := fun _ => False
def SP' (A : Aft) : SRes → Prop
  | .nx _ e => A.N e
  | .rt _ e r => A.R r e
  | .bk _ e => A.B e
  | .ct _ e => A.C e
  | .er _ _ _ => False
def SW (s : SDen) (e : Env) (A : Aft) : Prop := ∃ r, s e = some r ∧ SP' A r
section
variable {α β : Type} {q : Bool} {e : Env}
theorem SP'.more {A : Aft} {m : Bool} {r : SRes} (h : SP' A r) : ∃ r', SRes.more m (some r) = some r' ∧ SP' A r' := by
  cases r <;> first | exact ⟨_, rfl, h⟩ | exact False.elim h
theorem ew_pure {a : α} {P : α → Env → Prop} : EW q (dpure a) e P ↔ P a e := ⟨fun ⟨m, e', b, h, _, p⟩ => by cases h; exact p, fun h => ⟨false, e, a, rfl, fun _ => rfl, h⟩⟩
theorem ew_some {a : α} {P : α → Env → Prop} : EW q (dlift (some a)) e P ↔ P a e := ew_pure
theorem ew_lift {a : Option α} {P : α → Env → Prop} : EW q (dlift a) e P ↔ ∃ x, a = some x ∧ P x e := by
  cases a with
  | none => exact ⟨fun ⟨m, e', b, h, _⟩ => (by cases h), fun ⟨x, h, _⟩ => by cases h⟩
  | some a => exact ew_pure.trans ⟨fun h => ⟨a, rfl, h⟩, fun ⟨x, h, p⟩ => by cases h; exact p⟩
theorem ew_bind {d : Den α} {f : α → Den β} {P : β → Env → Prop} : EW q (dbind d f) e P ↔ EW q d e fun a e' => EW q (f a) e' P := by
  constructor
  · rintro ⟨m, e', b, h, hm, p⟩
    unfold dbind at h
    cases hd : d e with
    | none => rw [hd] at h; cases h
    | some r =>
      rw [hd] at h
      cases r with
      | err m1 e1 x => cases h
      | ok m1 e1 a =>
        obtain ⟨m2, h2, hm2⟩ := more_ok h
        subst hm2
        exact ⟨m1, e1, a, hd, fun z => or_l (hm z), m2, e', b, h2, fun z => or_r (hm z), p⟩
  · rintro ⟨m1, e1, a, hd, hm1, m2, e2, b, h2, hm2, p⟩
    refine ⟨m1 || m2, e2, b, ?_, fun z => by rw [hm1 z, hm2 z]; rfl, p⟩
    unfold dbind
    rw [hd]
    show Res.more m1 (f a e1) = _
    rw [h2]
    rfl
theorem ew_dq {d : Den α} {P : α → Env → Prop} : EW q (dq d) e P ↔ EW true d e P := by
  constructor
  · rintro ⟨m, e', b, h, hm, p⟩
    unfold dq at h
    cases hd : d e with
    | none => rw [hd] at h; cases h
    | some r =>
      rw [hd] at h
      cases r with
      | err m1 e1 x => cases h
      | ok m1 e1 a =>
        cases m1 with
        | true => cases h
        | false => cases h; exact ⟨false, e', b, hd, fun _ => rfl, p⟩
  · rintro ⟨m1, e1, a, hd, hm1, p⟩
    have := hm1 rfl
    subst this
    exact ⟨false, e1, a, by unfold dq; rw [hd], fun _ => rfl, p⟩
/-- what stands in a slot -/
def lk (e : Env) (i : Nat) : Slot := (e[i]?).getD none
theorem ew_var {i : Nat} {P : Rv → Env → Prop} : EW q (dvar i) e P ↔ match lk e i with
    | some (_, .im d) => P (.im d) e
    | some (_, o) => P (.bor i o) e
    | none => False := by
  unfold lk EW dvar
  cases h : e[i]? with
  | none => exact ⟨fun ⟨m, e', b, h, _⟩ => (by cases h), fun h => False.elim h⟩
  | some s =>
    cases s with
    | none => exact ⟨fun ⟨m, e', b, h, _⟩ => (by cases h), fun h => False.elim h⟩
    | some s =>
      obtain ⟨b, o⟩ := s
      cases o <;> exact ⟨fun ⟨m, e', b, h, _, p⟩ => by cases h; exact p, fun p => ⟨false, e, _, rfl, fun _ => rfl, p⟩⟩
theorem ew_ite {c : Prop} [Decidable c] {d f : Den α} {P : α → Env → Prop} : EW q (if c then d else f) e P ↔ (c → EW q d e P) ∧ (¬ c → EW q f e P) := by
  by_cases h : c
  · rw [if_pos h]
    exact ⟨fun p => ⟨fun _ => p, fun z => absurd h z⟩, fun p => p.1 h⟩
  · rw [if_neg h]
    exact ⟨fun p => ⟨fun z => absurd z h, fun _ => p⟩, fun p => p.2 h⟩
theorem ew_frz {d : Den Rv} {P : D → Env → Prop} : EW q (frz d) e P ↔ EW q d e fun r e' => match r with
    | .im d => P d e'
    | .new o => P o.flat e'
    | .bor i o => match lk e' i with
      | some (b, _) => P o.flat (e'.set i (some (b, .im o.flat)))
      | none => False := by
  unfold frz
  rw [ew_bind]
  refine ⟨fun h => ?_, fun h => ?_⟩
  all_goals
    obtain ⟨m, e', r, h1, h2, h3⟩ := h
    refine ⟨m, e', r, h1, h2, ?_⟩
  · cases r with
    | im d => obtain ⟨m, e', b, h, _, p⟩ := h3; cases h; exact p
    | new o => obtain ⟨m, e', b, h, _, p⟩ := h3; cases h; exact p
    | bor i o =>
      obtain ⟨m, e2, b, h, _, p⟩ := h3
      unfold lk
      dsimp only at h ⊢
      cases hi : e'[i]? with
      | none => rw [hi] at h; cases h
      | some s =>
        rw [hi] at h
        cases s with
        | none => cases h
        | some s => obtain ⟨b, o1⟩ := s; cases h; exact p
  · cases r with
    | im d => exact ⟨false, e', d, rfl, fun _ => rfl, h3⟩
    | new o => exact ⟨false, e', _, rfl, fun _ => rfl, h3⟩
    | bor i o =>
      unfold lk at h3
      dsimp only at h3
      cases hi : e'[i]? with
      | none => rw [hi] at h3; exact False.elim h3
      | some s =>
        rw [hi] at h3
        cases s with
        | none => exact False.elim h3
        | some s =>
          obtain ⟨b, o1⟩ := s
          refine ⟨false, e'.set i (some (b, .im o.flat)), o.flat, ?_, fun _ => rfl, h3⟩
          dsimp only
          rw [hi]
theorem ew_vw {d : Den Rv} {P : D → Env → Prop} : EW q (vw d) e P ↔ EW q d e fun r e' => match r with
    | .im d => P d e'
    | .new o => P o.flat e'
    | .bor _ o => P o.flat e' := by
  unfold vw
  rw [ew_bind]
  refine ⟨fun ⟨m, e', r, h1, h2, h3⟩ => ⟨m, e', r, h1, h2, ?_⟩, fun ⟨m, e', r, h1, h2, h3⟩ => ⟨m, e', r, h1, h2, ?_⟩⟩
  all_goals cases r <;> first | exact ew_pure.mp h3 | exact ew_pure.mpr h3
theorem ew_ow {d : Den Rv} {P : O → Env → Prop} : EW q (ow d) e P ↔ EW q d e fun r e' => match r with
    | .im d => P (.im d) e'
    | .new o => P (.im o.flat) e'
    | .bor _ o => P o e' := by
  unfold ow
  rw [ew_bind]
  refine ⟨fun ⟨m, e', r, h1, h2, h3⟩ => ⟨m, e', r, h1, h2, ?_⟩, fun ⟨m, e', r, h1, h2, h3⟩ => ⟨m, e', r, h1, h2, ?_⟩⟩
  all_goals cases r <;> first | exact ew_pure.mp h3 | exact ew_pure.mpr h3
theorem ew_imR {d : Den D} {P : Rv → Env → Prop} : EW q (imR d) e P ↔ EW q d e fun x e' => P (.im x) e' := by unfold imR; rw [ew_bind]; simp only [ew_pure]
theorem ew_imD {d : Den O} {P : D → Env → Prop} : EW q (imD d) e P ↔ EW q d e fun o e' => ∃ x, imO o = some x ∧ P x e' := by unfold imD; rw [ew_bind]; simp only [ew_lift]
theorem ew_fl {d : Den O} {P : D → Env → Prop} : EW q (fl d) e P ↔ EW q d e fun o e' => P o.flat e' := by unfold fl; rw [ew_bind]; simp only [ew_pure]
theorem ew_bin {da db : Den D} {g : D → D → Option D} {P : D → Env → Prop} : EW q (dbin da db g) e P ↔ EW q da e fun x e1 => EW q db e1 fun y e2 => ∃ z, g x y = some z ∧ P z e2 := by unfold dbin; simp only [ew_bind, ew_lift]
theorem ew_cmp {da db : Den D} {g : D → D → Option Bool} {P : D → Env → Prop} : EW q (dcmp da db g) e P ↔ EW q da e fun x e1 => EW true db e1 fun y e2 => ∃ z, g x y = some z ∧ P (.bl z) e2 := by
  unfold dcmp
  simp only [ew_bind, ew_lift, ew_dq]
  refine ⟨fun ⟨m, e1, x, h1, h2, m2, e2, y, h3, h4, d, hd, p⟩ => ?_, fun ⟨m, e1, x, h1, h2, m2, e2, y, h3, h4, z, hz, p⟩ => ⟨m, e1, x, h1, h2, m2, e2, y, h3, h4, .bl z, by rw [hz]; rfl, p⟩⟩
  obtain ⟨b, hb, rfl⟩ := Option.map_eq_some_iff.mp hd
  exact ⟨m, e1, x, h1, h2, m2, e2, y, h3, h4, b, hb, p⟩
theorem ew_dtB {d : Den D} {P : Bool → Env → Prop} : EW q (dtB d) e P ↔ EW q d e fun x e' => match x with
    | .bl b => P b e'
    | _ => False := by
  unfold dtB
  simp only [ew_bind, ew_lift]
  refine ⟨fun ⟨m, e1, x, h1, h2, b, hb, p⟩ => ⟨m, e1, x, h1, h2, ?_⟩, fun ⟨m, e1, x, h1, h2, p⟩ => ⟨m, e1, x, h1, h2, ?_⟩⟩
  · cases x <;> cases hb
    exact p
  · cases x <;> first | exact False.elim p | exact ⟨_, rfl, p⟩
theorem ew_dtru {d : Den D} {P : Bool → Env → Prop} : EW q (dtru d) e P ↔ EW q d e fun x e' => ∃ b, truD x = some b ∧ P b e' := by unfold dtru; simp only [ew_bind, ew_lift]
theorem ew_dand {d f : Den Bool} {P : Bool → Env → Prop} : EW q (dand d f) e P ↔ EW q d e fun b e' => (b = true → EW q f e' P) ∧ (b = false → P false e') := by
  unfold dand
  simp only [ew_bind, ew_ite, ew_pure, Bool.not_eq_true]
theorem ew_dor {d f : Den Bool} {P : Bool → Env → Prop} : EW q (dor d f) e P ↔ EW q d e fun b e' => (b = true → P true e') ∧ (b = false → EW q f e' P) := by
  unfold dor
  simp only [ew_bind, ew_ite, ew_pure, Bool.not_eq_true]
theorem ew_dnot {d : Den Bool} {P : Bool → Env → Prop} : EW q (dnot d) e P ↔ EW q d e fun b e' => P (!b) e' := by unfold dnot; simp only [ew_bind, ew_pure]
theorem ew_dandV {d f : Den D} {P : D → Env → Prop} : EW q (dandV d f) e P ↔ EW q (dtB d) e fun b e' => (b = true → EW q f e' P) ∧ (b = false → P (.bl false) e') := by
  unfold dandV
  simp only [ew_bind, ew_ite, ew_pure, Bool.not_eq_true]
theorem ew_dorV {d f : Den D} {P : D → Env → Prop} : EW q (dorV d f) e P ↔ EW q (dtB d) e fun b e' => (b = true → P (.bl true) e') ∧ (b = false → EW q f e' P) := by
  unfold dorV
  simp only [ew_bind, ew_ite, ew_pure, Bool.not_eq_true]
theorem ew_dnotV {d : Den D} {P : D → Env → Prop} : EW q (dnotV d) e P ↔ EW q (dtB d) e fun b e' => P (.bl (!b)) e' := by unfold dnotV; simp only [ew_bind, ew_pure]
theorem ew_dif {t : Den Bool} {x y : Den α} {P : α → Env → Prop} : EW q (dif t x y) e P ↔ EW q t e fun b e' => (b = true → EW q x e' P) ∧ (b = false → EW q y e' P) := by
  unfold dif
  simp only [ew_bind, ew_ite, Bool.not_eq_true]
theorem ew_dcons {d : Den D} {ds : Den (List D)} {P : List D → Env → Prop} : EW q (dcons d ds) e P ↔ EW q d e fun x e1 => EW q ds e1 fun xs e2 => P (x :: xs) e2 := by unfold dcons; simp only [ew_bind, ew_pure]
theorem ew_dconsV {d : Den D} {ds : Den (List D)} {P : List D → Env → Prop} : EW q (dconsV d ds) e P ↔ EW q d e fun x e1 => EW true ds e1 fun xs e2 => P (x :: xs) e2 := by unfold dconsV; simp only [ew_bind, ew_pure, ew_dq]
theorem ew_darcons {d : Den Rv} {ds : Den (List AR)} {P : List AR → Env → Prop} : EW q (darcons d ds) e P ↔ EW q d e fun x e1 => EW q ds e1 fun xs e2 => P (darg x :: xs) e2 := by unfold darcons; simp only [ew_bind, ew_pure]
theorem ew_dtup {ds : Den (List D)} {P : D → Env → Prop} : EW q (dtup ds) e P ↔ EW q ds e fun xs e' => xs.length ≤ sizeLine ∧ P (.tup xs) e' := by
  unfold dtup
  simp only [ew_bind, ew_lift]
  refine ⟨fun ⟨m, e1, x, h1, h2, b, hb, p⟩ => ⟨m, e1, x, h1, h2, ?_⟩, fun ⟨m, e1, x, h1, h2, hz, p⟩ => ⟨m, e1, x, h1, h2, .tup x, by rw [if_pos hz], p⟩⟩
  split at hb
  · rename_i hz
    cases hb
    exact ⟨hz, p⟩
  · cases hb
theorem ew_dlst {ds : Den (List D)} {P : Rv → Env → Prop} : EW q (dlst ds) e P ↔ EW q ds e fun xs e' => xs.length ≤ sizeLine ∧ P (.new (.lst (xs.map O.im))) e' := by
  unfold dlst
  simp only [ew_bind, ew_lift]
  refine ⟨fun ⟨m, e1, x, h1, h2, b, hb, p⟩ => ⟨m, e1, x, h1, h2, ?_⟩, fun ⟨m, e1, x, h1, h2, hz, p⟩ => ⟨m, e1, x, h1, h2, _, by rw [if_pos hz], p⟩⟩
  split at hb
  · rename_i hz
    cases hb
    exact ⟨hz, p⟩
  · cases hb
theorem ew_dixO {d : Den O} {di : Den D} {P : O → Env → Prop} : EW q (dixO d di) e P ↔ EW q d e fun o e1 => EW true di e1 fun i e2 => ∃ x, elemOO o i = some x ∧ P x e2 := by unfold dixO; simp only [ew_bind, ew_lift, ew_dq]
theorem ew_chain {da db dc : Den D} {g g' : D → D → Option Bool} {P : D → Env → Prop} : EW q (dchain da db dc g g') e P ↔ EW q da e fun x e1 => EW true db e1 fun y e2 => ∃ k, g x y = some k ∧ (k = true → EW true dc e2 fun z e3 => ∃ b, g' y z = some b ∧ P (.bl b) e3) ∧ (k = false → P (.bl false) e2) := by
  unfold dchain
  simp only [ew_bind, ew_lift, ew_dq, ew_ite, ew_pure, Bool.not_eq_true]
  refine ⟨fun ⟨m, e1, x, h1, h2, m2, e2, y, h3, h4, k, hk, p1, p2⟩ => ⟨m, e1, x, h1, h2, m2, e2, y, h3, h4, k, hk, fun z => ?_, p2⟩, fun ⟨m, e1, x, h1, h2, m2, e2, y, h3, h4, k, hk, p1, p2⟩ => ⟨m, e1, x, h1, h2, m2, e2, y, h3, h4, k, hk, fun z => ?_, p2⟩⟩
  · obtain ⟨m5, e5, z5, h5, h6, d, hd, p⟩ := p1 z
    obtain ⟨b, hb, rfl⟩ := Option.map_eq_some_iff.mp hd
    exact ⟨m5, e5, z5, h5, h6, b, hb, p⟩
  · obtain ⟨m5, e5, z5, h5, h6, b, hb, p⟩ := p1 z
    exact ⟨m5, e5, z5, h5, h6, .bl b, by rw [hb]; rfl, p⟩
theorem ew_imp {d : Den α} {P Q : α → Env → Prop} (h : EW q d e P) (k : ∀ a e', P a e' → Q a e') : EW q d e Q := by
  obtain ⟨m, e', a, h1, h2, h3⟩ := h
  exact ⟨m, e', a, h1, h2, k a e' h3⟩
/-! ### statements -/
theorem sw_next {A : Aft} : SW snext e A ↔ A.N e := ⟨fun ⟨r, h, p⟩ => by cases h; exact p, fun h => ⟨_, rfl, h⟩⟩
theorem sw_seq {a b : SDen} {A : Aft} : SW (sseq a b) e A ↔ SW a e { A with N := fun e' => SW b e' A } := by
  constructor
  · rintro ⟨r, h, p⟩
    unfold sseq at h
    cases ha : a e with
    | none => rw [ha] at h; cases h
    | some ra =>
      rw [ha] at h
      refine ⟨ra, ha, ?_⟩
      cases ra with
      | nx m e1 =>
        dsimp only at h
        cases hb : b e1 with
        | none => rw [hb] at h; cases h
        | some rb =>
          rw [hb] at h
          refine ⟨rb, hb, ?_⟩
          cases rb <;> (cases h; exact p)
      | rt m e1 v => cases h; exact p
      | bk m e1 => cases h; exact p
      | ct m e1 => cases h; exact p
      | er m e1 x => cases h; exact p
  · rintro ⟨ra, ha, p⟩
    unfold SW sseq
    rw [ha]
    cases ra with
    | nx m e1 =>
      obtain ⟨rb, hb, pb⟩ := p
      dsimp only
      rw [hb]
      exact SP'.more pb
    | rt m e1 v => exact ⟨_, rfl, p⟩
    | bk m e1 => exact ⟨_, rfl, p⟩
    | ct m e1 => exact ⟨_, rfl, p⟩
    | er m e1 x => exact False.elim p
theorem sw_bind {d : Den α} {f : α → SDen} {A : Aft} : SW (sbind d f) e A ↔ EW false d e fun a e' => SW (f a) e' A := by
  constructor
  · rintro ⟨r, h, p⟩
    unfold sbind at h
    cases ha : d e with
    | none => rw [ha] at h; cases h
    | some ra =>
      rw [ha] at h
      cases ra with
      | err m e1 x => cases h; exact False.elim p
      | ok m e1 a =>
        refine ⟨m, e1, a, ha, fun z => (by cases z), ?_⟩
        dsimp only at h
        cases hb : f a e1 with
        | none => rw [hb] at h; cases h
        | some rb =>
          rw [hb] at h
          refine ⟨rb, hb, ?_⟩
          cases rb <;> (cases h; exact p)
  · rintro ⟨m, e1, a, ha, _, rb, hb, pb⟩
    unfold SW sbind
    rw [ha]
    dsimp only
    rw [hb]
    exact SP'.more pb
theorem sw_ite {c : Prop} [Decidable c] {a b : SDen} {A : Aft} : SW (if c then a else b) e A ↔ (c → SW a e A) ∧ (¬ c → SW b e A) := by
  by_cases h : c
  · rw [if_pos h]
    exact ⟨fun p => ⟨fun _ => p, fun z => absurd h z⟩, fun p => p.1 h⟩
  · rw [if_neg h]
    exact ⟨fun p => ⟨fun z => absurd z h, fun _ => p⟩, fun p => p.2 h⟩
theorem sw_if {t : Den Bool} {a b : SDen} {A : Aft} : SW (sif t a b) e A ↔ EW false t e fun k e' => (k = true → SW a e' A) ∧ (k = false → SW b e' A) := by
  unfold sif
  simp only [sw_bind, sw_ite, Bool.not_eq_true]
theorem sw_rt {d : Den Rv} {A : Aft} : SW (srt d) e A ↔ EW false d e fun r e' => A.R r e' := by
  unfold srt
  rw [sw_bind]
  exact ⟨fun h => ew_imp h fun a e' ⟨r, h, p⟩ => by cases h; exact p, fun h => ew_imp h fun a e' p => ⟨_, rfl, p⟩⟩
theorem sw_drop {d : Den Rv} {A : Aft} : SW (sdrop d) e A ↔ EW false d e fun _ e' => A.N e' := by
  unfold sdrop
  simp only [sw_bind, sw_next]
theorem lk_some {i : Nat} {s : Bool × O} (h : lk e i = some s) : e[i]? = some (some s) := by
  unfold lk at h
  cases hi : e[i]? with
  | none => rw [hi] at h; cases h
  | some x => rw [hi] at h; exact congrArg some h
theorem sw_set {i : Nat} {d : Den Rv} {A : Aft} : (EW false d e fun r e' => match r with
    | .im d => Env.free e' i = true ∧ A.N (e'.set i (some (false, .im d)))
    | .new o => Env.free e' i = true ∧ A.N (e'.set i (some (false, o)))
    | .bor j o => Env.free e' i = true ∧ match lk e' j with
      | some (b, _) => Env.free (e'.set j (some (b, .im o.flat))) i = true ∧ A.N ((e'.set j (some (b, .im o.flat))).set i (some (false, .im o.flat)))
      | none => False) → SW (sset i d) e A := by
  intro h
  unfold sset
  rw [sw_bind]
  refine ew_imp h fun r e' p => ?_
  cases r with
  | im d => exact ⟨_, if_pos p.1, p.2⟩
  | new o => exact ⟨_, if_pos p.1, p.2⟩
  | bor j o =>
    obtain ⟨p1, p2⟩ := p
    cases hl : lk e' j with
    | none => rw [hl] at p2; exact False.elim p2
    | some s =>
      obtain ⟨b, o1⟩ := s
      rw [hl] at p2
      refine ⟨.nx false ((e'.set j (some (b, .im o.flat))).set i (some (false, .im o.flat))), ?_, p2.2⟩
      dsimp only
      rw [if_pos p1, lk_some hl]
      exact if_pos p2.1
/-- a loop over items, by an invariant over their number -/
theorem sw_loop {bind : D → Env → Option Env} {body : SDen} {A : Aft} : ∀ {ds : List D} {e : Env} (Iv : Nat → Env → Prop), Iv 0 e →
    (∀ i d e', ds[i]? = some d → Iv i e' → ∃ e1, bind d e' = some e1 ∧ SW body e1 { N := Iv (i + 1), C := Iv (i + 1), R := A.R, B := A.N }) → (∀ e', Iv ds.length e' → A.N e') → SW (sloop bind body ds) e A
  | [], e, Iv, h0, hs, hd => sw_next.mpr (hd e h0)
  | d :: ds, e, Iv, h0, hs, hd => by
    obtain ⟨e1, hb, r, hr, p⟩ := hs 0 d e rfl h0
    have ih : ∀ e2, Iv 1 e2 → SW (sloop bind body ds) e2 A := fun e2 h2 => sw_loop (fun i e => Iv (i + 1) e) h2 (fun i d' e' hi h' => hs (i + 1) d' e' (by simpa using hi) h') (fun e' h' => hd e' h')
    unfold SW sloop
    rw [hb]
    dsimp only
    rw [hr]
    cases r with
    | nx m e2 =>
      obtain ⟨r2, h2, p2⟩ := ih e2 p
      show ∃ r, SRes.more m (sloop bind body ds e2) = some r ∧ _
      rw [h2]
      exact SP'.more p2
    | ct m e2 =>
      obtain ⟨r2, h2, p2⟩ := ih e2 p
      show ∃ r, SRes.more m (sloop bind body ds e2) = some r ∧ _
      rw [h2]
      exact SP'.more p2
    | bk m e2 => exact ⟨_, rfl, p⟩
    | rt m e2 v => exact ⟨_, rfl, p⟩
    | er m e2 x => exact False.elim p
theorem sw_forP {src : Den (List D)} {bind : D → Env → Option Env} {body : SDen} {A : Aft} : SW (sforP src bind body) e A ↔ EW false src e fun ds e' => SW (sloop bind body ds) e' A := by
  unfold sforP
  rw [sw_bind]
theorem ew_sq {d : Den D} {P : List D → Env → Prop} : EW q (sq d) e P ↔ EW q d e fun x e' => ∃ ds, seqD x = some ds ∧ P ds e' := by unfold sq; simp only [ew_bind, ew_lift]
theorem ew_rg {g : List D → Option (List D)} {d : Den (List D)} {P : List D → Env → Prop} : EW q (rg g d) e P ↔ EW q d e fun x e' => ∃ ds, g x = some ds ∧ P ds e' := by unfold rg; simp only [ew_bind, ew_lift]
theorem sw_app {i : Nat} {d : Den Rv} {A : Aft} {b0 : Bool} {os0 : List O} (h0 : lk e i = some (b0, .lst os0)) (h : EW false d e fun r e1 => EW false (rvO r) e1 fun o e' => match lk e' i with
    | some (b, .lst os) => os.length < sizeLine ∧ A.N (e'.set i (some (b, .lst (os ++ [o]))))
    | _ => False) : SW (sapp i d) e A := by
  unfold SW sapp
  rw [lk_some h0]
  show SW (sbind d fun rv => sbind (rvO rv) _) e A
  rw [sw_bind]
  refine ew_imp h fun r e1 p => ?_
  rw [sw_bind]
  refine ew_imp p fun o e' p => ?_
  unfold SW
  cases hl : lk e' i with
  | none => rw [hl] at p; exact False.elim p
  | some s =>
    obtain ⟨b, o1⟩ := s
    rw [hl] at p
    cases o1 with
    | lst os =>
      dsimp only
      rw [lk_some hl]
      exact ⟨_, if_pos p.1, p.2⟩
    | _ => exact False.elim p
theorem ew_rvO {r : Rv} {P : O → Env → Prop} : EW q (rvO r) e P ↔ match r with
    | .im d => P (.im d) e
    | .new o => P o e
    | .bor i _ => match lk e i with
      | some (b, o) => P (.im o.flat) (e.set i (some (b, .im o.flat)))
      | none => False := by
  unfold rvO EW
  cases r with
  | im d => exact ⟨fun ⟨m, e', a, h, _, p⟩ => by cases h; exact p, fun p => ⟨false, e, _, rfl, fun _ => rfl, p⟩⟩
  | new o => exact ⟨fun ⟨m, e', a, h, _, p⟩ => by cases h; exact p, fun p => ⟨false, e, _, rfl, fun _ => rfl, p⟩⟩
  | bor i o =>
    dsimp only
    unfold lk
    cases hi : e[i]? with
    | none => exact ⟨fun ⟨m, e', a, h, _, p⟩ => (by cases h), fun p => False.elim p⟩
    | some s =>
      cases s with
      | none => exact ⟨fun ⟨m, e', a, h, _, p⟩ => (by cases h), fun p => False.elim p⟩
      | some s => obtain ⟨b, o1⟩ := s; exact ⟨fun ⟨m, e', a, h, _, p⟩ => by cases h; exact p, fun p => ⟨false, _, _, rfl, fun _ => rfl, p⟩⟩
/-! ### defs -/
/-- called with frozen data: it gives d -/
def FP (f : FDen) (ds : List D) (d : D) : Prop := ∃ m, f (ds.map O.im) = some (.ok m (ds.map O.im) (.im d))
/-- .. it gives what is new -/
def FN (f : FDen) (ds : List D) (o : O) : Prop := ∃ m, f (ds.map O.im) = some (.ok m (ds.map O.im) (.new o))
theorem outs_im : ∀ (ds : List D) (e : Env), ds.length ≤ e.length → outs (ds.map O.im) e = some (ds.map O.im)
  | [], e, _ => by cases e <;> rfl
  | d :: ds, [], h => by simp at h
  | d :: ds, s :: e, h => by
    show (outs (ds.map O.im) e).map _ = _
    rw [outs_im ds e (by simpa using h)]
    rfl
theorem fp_of {n : Nat} {s : SDen} {ds : List D} {d : D} (h : SW s (env0 (ds.map O.im) n) { N := fun e => d = .non ∧ ds.length ≤ e.length, R := fun r e => r = .im d ∧ ds.length ≤ e.length }) : FP (fnden n s) ds d := by
  obtain ⟨r, hr, p⟩ := h
  unfold FP fnden
  rw [hr]
  cases r with
  | nx m e =>
    obtain ⟨rfl, hl⟩ := p
    dsimp only
    rw [outs_im ds e hl]
    exact ⟨m, rfl⟩
  | rt m e r =>
    obtain ⟨rfl, hl⟩ := p
    dsimp only
    rw [outs_im ds e hl]
    exact ⟨m, rfl⟩
  | _ => exact False.elim p
theorem fn_of {n : Nat} {s : SDen} {ds : List D} {o : O} (h : SW s (env0 (ds.map O.im) n) { N := fun e => False, R := fun r e => ds.length ≤ e.length ∧ (r = .new o ∨ ∃ i o', r = .bor i o' ∧ o' = o ∧ lk e i = some (false, o)) }) : FN (fnden n s) ds o := by
  obtain ⟨r, hr, p⟩ := h
  unfold FN fnden
  rw [hr]
  cases r with
  | nx m e => exact False.elim p
  | rt m e r =>
    obtain ⟨hl, p⟩ := p
    rcases p with rfl | ⟨i, o', rfl, rfl, p⟩
    · dsimp only
      rw [outs_im ds e hl]
      exact ⟨m, rfl⟩
    · dsimp only
      rw [lk_some p]
      dsimp only
      rw [outs_im ds (e.set i none) (by rw [List.length_set]; exact hl)]
      exact ⟨m, rfl⟩
  | _ => exact False.elim p
theorem lend_im : ∀ (ds : List D) (e : Env), lend (ds.map AR.im) e = some (ds.map O.im, ds.map (fun _ => none), e)
  | [], e => rfl
  | d :: ds, e => by
    show (lend (ds.map AR.im) e).map _ = _
    rw [lend_im ds e]
    rfl
theorem unlend_im : ∀ (ds : List D) (e : Env), unlend (ds.map (fun _ => none)) (ds.map O.im) e = some e
  | [], e => rfl
  | d :: ds, e => unlend_im ds e
theorem allIm_map : ∀ ds : List D, allIm (ds.map O.im) = true
  | [] => rfl
  | d :: ds => allIm_map ds
theorem ew_fp {n : Nat} {f : FDen} {ds : List D} {d : D} {P : Rv → Env → Prop} (hf : FP f ds d) (hn : ds.length = n) : EW q (dfnA n f (ds.map AR.im)) e P ↔ P (.im d) e := by
  obtain ⟨m, hf⟩ := hf
  have h : dfnA n f (ds.map AR.im) e = some (.ok false e (.im d)) := by
    unfold dfnA
    rw [if_pos (by rw [List.length_map]; exact hn), lend_im]
    dsimp only
    rw [hf]
    dsimp only
    rw [unlend_im, allIm_map]
    simp
  unfold EW
  rw [h]
  exact ⟨fun ⟨m, e', a, h, _, p⟩ => by cases h; exact p, fun p => ⟨false, e, _, rfl, fun _ => rfl, p⟩⟩
theorem ew_fn {n : Nat} {f : FDen} {ds : List D} {o : O} {P : Rv → Env → Prop} (hf : FN f ds o) (hn : ds.length = n) : EW q (dfnA n f (ds.map AR.im)) e P ↔ P (.new o) e := by
  obtain ⟨m, hf⟩ := hf
  have h : dfnA n f (ds.map AR.im) e = some (.ok false e (.new o)) := by
    unfold dfnA
    rw [if_pos (by rw [List.length_map]; exact hn), lend_im]
    dsimp only
    rw [hf]
    dsimp only
    rw [unlend_im, allIm_map]
    simp
  unfold EW
  rw [h]
  exact ⟨fun ⟨m, e', a, h, _, p⟩ => by cases h; exact p, fun p => ⟨false, e, _, rfl, fun _ => rfl, p⟩⟩
end
end DL

/-! DLP: rules that step through a denotation. -/
namespace DL
open PySem PySem.Spec PyProof.Rows L2 Evl
def OP {α : Type} (o : Option α) (P : α → Prop) : Prop := ∃ z, o = some z ∧ P z
def BR (k : Bool) (X Y : Prop) : Prop := (k = true → X) ∧ (k = false → Y)
theorem br_t {X Y : Prop} (h : X) : BR true X Y := ⟨fun _ => h, fun z => by cases z⟩
theorem br_f {X Y : Prop} (h : Y) : BR false X Y := ⟨fun z => (by cases z), fun _ => h⟩
theorem br_not {k : Bool} {X Y : Prop} (h : BR k Y X) : BR (!k) X Y := by
  cases k
  · exact ⟨fun _ => h.2 rfl, fun z => (by cases z)⟩
  · exact ⟨fun z => (by cases z), fun _ => h.1 rfl⟩
theorem br_dec {p : Prop} [Decidable p] {X Y : Prop} (h1 : p → X) (h2 : ¬ p → Y) : BR (decide p) X Y := ⟨fun h => h1 (of_decide_eq_true h), fun h => h2 (of_decide_eq_false h)⟩
theorem br_of {k : Bool} {X Y : Prop} (h1 : k = true → X) (h2 : k = false → Y) : BR k X Y := ⟨h1, h2⟩
theorem br_eqT {k : Bool} {X Y : Prop} (hk : k = true) (h : X) : BR k X Y := ⟨fun _ => h, fun z => by rw [hk] at z; cases z⟩
theorem br_eqF {k : Bool} {X Y : Prop} (hk : k = false) (h : Y) : BR k X Y := ⟨fun z => (by rw [hk] at z; cases z), fun _ => h⟩
section
variable {α β : Type} {q : Bool} {e : Env}
theorem w_op {o : Option α} {z : α} {P : α → Prop} (h : o = some z) (p : P z) : OP o P := ⟨z, h, p⟩
theorem mul_l {i j : Int} (h : i.natAbs < 2 ^ 64) : mulOk i j = true := by unfold mulOk; rw [decide_eq_true h]; rfl
theorem mul_r {i j : Int} (h : j.natAbs < 2 ^ 64) : mulOk i j = true := by unfold mulOk; rw [decide_eq_true h]; cases decide (i.natAbs < 2 ^ 64) <;> rfl
theorem op_mul {i j : Int} {P : D → Prop} (h : mulOk i j = true) (p : P (.int (i * j))) : OP (mulD (.int i) (.int j)) P := ⟨_, if_pos h, p⟩
theorem op_div {i j : Int} {P : D → Prop} (h : j ≠ 0 ∧ j.natAbs.log2 < 9000) (p : P (.int (i.fdiv j))) : OP (divD (.int i) (.int j)) P := ⟨_, if_pos h, p⟩
theorem op_mod {i j : Int} {P : D → Prop} (h : j ≠ 0) (p : P (.int (i.fmod j))) : OP (modD (.int i) (.int j)) P := ⟨_, if_pos h, p⟩
theorem op_pow {i j : Int} {P : D → Prop} (h : 0 ≤ j ∧ j ≤ 1000000 ∧ i.natAbs < 2 ^ 64) (p : P (.int (i ^ j.toNat))) : OP (powD (.int i) (.int j)) P := ⟨_, if_pos h, p⟩
theorem eqD_ii (i j : Int) : eqD (.int i) (.int j) = some (decide (i = j)) := rfl
theorem op_eq {i j : Int} {P : Bool → Prop} (p : P (decide (i = j))) : OP (eqD (.int i) (.int j)) P := ⟨_, eqD_ii i j, p⟩
theorem op_ne {i j : Int} {P : Bool → Prop} (p : P (!decide (i = j))) : OP (neD (.int i) (.int j)) P := ⟨_, rfl, p⟩
theorem op_intI {i : Int} {P : D → Prop} (p : P (.int i)) : OP (intD [.int i]) P := ⟨_, rfl, p⟩
/-- what is in hand by each use -/
def frzP (r : Rv) (e' : Env) (P : D → Env → Prop) : Prop := match r with
    | .im d => P d e'
    | .new o => P o.flat e'
    | .bor i o => match lk e' i with
      | some (b, _) => P o.flat (e'.set i (some (b, .im o.flat)))
      | none => False
def vwP (r : Rv) (e' : Env) (P : D → Env → Prop) : Prop := match r with
    | .im d => P d e'
    | .new o => P o.flat e'
    | .bor _ o => P o.flat e'
def owP (r : Rv) (e' : Env) (P : O → Env → Prop) : Prop := match r with
    | .im d => P (.im d) e'
    | .new o => P (.im o.flat) e'
    | .bor _ o => P o e'
def setP (i : Nat) (r : Rv) (e' : Env) (N : Env → Prop) : Prop := match r with
  | .im d => Env.free e' i = true ∧ N (e'.set i (some (false, .im d)))
  | .new o => Env.free e' i = true ∧ N (e'.set i (some (false, o)))
  | .bor j o => Env.free e' i = true ∧ match lk e' j with
    | some (b, _) => Env.free (e'.set j (some (b, .im o.flat))) i = true ∧ N ((e'.set j (some (b, .im o.flat))).set i (some (false, .im o.flat)))
    | none => False
def argP (r : Rv) (P : AR → Prop) : Prop := P (darg r)
def rvP (r : Rv) (e : Env) (P : O → Env → Prop) : Prop := match r with
    | .im d => P (.im d) e
    | .new o => P o e
    | .bor i _ => match lk e i with
      | some (b, o) => P (.im o.flat) (e.set i (some (b, .im o.flat)))
      | none => False
def appP (i : Nat) (o : O) (e' : Env) (N : Env → Prop) : Prop := match lk e' i with
    | some (b, .lst os) => os.length < sizeLine ∧ N (e'.set i (some (b, .lst (os ++ [o]))))
    | _ => False
section
variable {P : D → Env → Prop} {PO : O → Env → Prop} {N : Env → Prop} {PA : AR → Prop} {d : D} {o : O} {i : Nat}
theorem frzP_im (p : P d e) : frzP (.im d) e P := p
theorem frzP_new (p : P o.flat e) : frzP (.new o) e P := p
theorem vwP_im (p : P d e) : vwP (.im d) e P := p
theorem vwP_new (p : P o.flat e) : vwP (.new o) e P := p
theorem vwP_bor (p : P o.flat e) : vwP (.bor i o) e P := p
theorem owP_im (p : PO (.im d) e) : owP (.im d) e PO := p
theorem owP_new (p : PO (.im o.flat) e) : owP (.new o) e PO := p
theorem owP_bor (p : PO o e) : owP (.bor i o) e PO := p
theorem setP_im (h : e.free i = true) (p : N (e.set i (some (false, .im d)))) : setP i (.im d) e N := ⟨h, p⟩
theorem setP_new (h : e.free i = true) (p : N (e.set i (some (false, o)))) : setP i (.new o) e N := ⟨h, p⟩
theorem argP_im (p : PA (.im d)) : argP (.im d) PA := p
theorem argP_new (p : PA (.im o.flat)) : argP (.new o) PA := p
theorem argP_bor (p : PA (.bor i)) : argP (.bor i o) PA := p
theorem rvP_im (p : PO (.im d) e) : rvP (.im d) e PO := p
theorem rvP_new (p : PO o e) : rvP (.new o) e PO := p
theorem appP_of {b : Bool} {os : List O} (h : lk e i = some (b, .lst os)) (hl : os.length < sizeLine) (p : N (e.set i (some (b, .lst (os ++ [o]))))) : appP i o e N := by
  unfold appP
  rw [h]
  exact ⟨hl, p⟩
end
section
variable {P : α → Env → Prop} {PR : Rv → Env → Prop} {PD : D → Env → Prop} {PO : O → Env → Prop} {PB : Bool → Env → Prop}
theorem w_pure {a : α} (p : P a e) : EW q (dpure a) e P := ew_pure.mpr p
theorem w_bind {d : Den β} {f : β → Den α} (p : EW q d e fun a e' => EW q (f a) e' P) : EW q (dbind d f) e P := ew_bind.mpr p
theorem w_lift {a : Option α} (p : OP a fun x => P x e) : EW q (dlift a) e P := ew_lift.mpr p
theorem w_dq {d : Den α} (p : EW true d e P) : EW q (dq d) e P := ew_dq.mpr p
theorem w_varI {i : Nat} {b : Bool} {d : D} (h : lk e i = some (b, .im d)) (p : PR (.im d) e) : EW q (dvar i) e PR := ew_var.mpr (by rw [h]; exact p)
theorem w_varL {i : Nat} {b : Bool} {os : List O} (h : lk e i = some (b, .lst os)) (p : PR (.bor i (.lst os)) e) : EW q (dvar i) e PR := ew_var.mpr (by rw [h]; exact p)
theorem w_varT {i : Nat} {b : Bool} {os : List O} (h : lk e i = some (b, .tup os)) (p : PR (.bor i (.tup os)) e) : EW q (dvar i) e PR := ew_var.mpr (by rw [h]; exact p)
theorem w_varX {i : Nat} {b : Bool} {C : Addr} {ns : List Str} {os : List O} (h : lk e i = some (b, .ins C ns os)) (p : PR (.bor i (.ins C ns os)) e) : EW q (dvar i) e PR := ew_var.mpr (by rw [h]; exact p)
theorem w_frzI {i : Nat} {b : Bool} {d : D} (h : lk e i = some (b, .im d)) (p : PD d e) : EW q (frz (dvar i)) e PD := ew_frz.mpr (w_varI h p)
theorem w_frzO {i : Nat} {b : Bool} {o : O} (h : lk e i = some (b, o)) (p : PD o.flat (e.set i (some (b, .im o.flat)))) : EW q (frz (dvar i)) e PD := by
  refine ew_frz.mpr (ew_var.mpr ?_)
  rw [h]
  cases o with
  | im d =>
    have : e.set i (some (b, .im d)) = e := by
      apply List.ext_getElem?
      intro j
      rw [List.getElem?_set]
      by_cases hj : i = j
      · subst hj
        rw [lk_some h]
        split
        · split
          · rfl
          · rename_i hz
            have := lk_some h
            rw [List.getElem?_eq_none (by omega)] at this
            cases this
        · rename_i hz; exact absurd rfl hz
      · rw [if_neg hj]
    simp only [O.flat] at p
    rw [this] at p
    exact p
  | _ =>
    dsimp only
    rw [h]
    exact p
theorem w_frz {d : Den Rv} (p : EW q d e fun r e' => frzP r e' PD) : EW q (frz d) e PD := ew_frz.mpr p
theorem w_vwI {i : Nat} {b : Bool} {d : D} (h : lk e i = some (b, .im d)) (p : PD d e) : EW q (vw (dvar i)) e PD := ew_vw.mpr (w_varI h p)
theorem w_vwO {i : Nat} {b : Bool} {o : O} (h : lk e i = some (b, o)) (p : PD o.flat e) : EW q (vw (dvar i)) e PD := by
  refine ew_vw.mpr (ew_var.mpr ?_)
  rw [h]
  cases o <;> exact p
theorem w_vw {d : Den Rv} (p : EW q d e fun r e' => vwP r e' PD) : EW q (vw d) e PD := ew_vw.mpr p
theorem w_owO {i : Nat} {b : Bool} {o : O} (h : lk e i = some (b, o)) (p : PO o e) : EW q (ow (dvar i)) e PO := by
  refine ew_ow.mpr (ew_var.mpr ?_)
  rw [h]
  cases o <;> exact p
theorem w_ow {d : Den Rv} (p : EW q d e fun r e' => owP r e' PO) : EW q (ow d) e PO := ew_ow.mpr p
theorem w_imR {d : Den D} (p : EW q d e fun x e' => PR (.im x) e') : EW q (imR d) e PR := ew_imR.mpr p
theorem w_imD {d : Den O} (p : EW q d e fun o e' => OP (imO o) fun x => PD x e') : EW q (imD d) e PD := ew_imD.mpr p
theorem w_fl {d : Den O} (p : EW q d e fun o e' => PD o.flat e') : EW q (fl d) e PD := ew_fl.mpr p
theorem w_bin {da db : Den D} {g : D → D → Option D} (p : EW q da e fun x e1 => EW q db e1 fun y e2 => OP (g x y) fun z => PD z e2) : EW q (dbin da db g) e PD := ew_bin.mpr p
theorem w_cmp {da db : Den D} {g : D → D → Option Bool} (p : EW q da e fun x e1 => EW true db e1 fun y e2 => OP (g x y) fun z => PD (.bl z) e2) : EW q (dcmp da db g) e PD := ew_cmp.mpr p
def blP (x : D) (P : Bool → Prop) : Prop := match x with
  | .bl b => P b
  | _ => False
theorem blP_of {b : Bool} {P : Bool → Prop} (p : P b) : blP (.bl b) P := p
theorem w_dtB {d : Den D} (p : EW q d e fun x e' => blP x fun b => PB b e') : EW q (dtB d) e PB := ew_dtB.mpr (ew_imp p fun x e' h => by cases x <;> first | exact h | exact False.elim h)
theorem w_dtru {d : Den D} (p : EW q d e fun x e' => OP (truD x) fun b => PB b e') : EW q (dtru d) e PB := ew_dtru.mpr p
theorem w_dand {d f : Den Bool} (p : EW q d e fun b e' => BR b (EW q f e' PB) (PB false e')) : EW q (dand d f) e PB := ew_dand.mpr p
theorem w_dor {d f : Den Bool} (p : EW q d e fun b e' => BR b (PB true e') (EW q f e' PB)) : EW q (dor d f) e PB := ew_dor.mpr p
theorem w_dnot {d : Den Bool} (p : EW q d e fun b e' => PB (!b) e') : EW q (dnot d) e PB := ew_dnot.mpr p
theorem w_dandV {d f : Den D} (p : EW q (dtB d) e fun b e' => BR b (EW q f e' PD) (PD (.bl false) e')) : EW q (dandV d f) e PD := ew_dandV.mpr p
theorem w_dorV {d f : Den D} (p : EW q (dtB d) e fun b e' => BR b (PD (.bl true) e') (EW q f e' PD)) : EW q (dorV d f) e PD := ew_dorV.mpr p
theorem w_dnotV {d : Den D} (p : EW q (dtB d) e fun b e' => PD (.bl (!b)) e') : EW q (dnotV d) e PD := ew_dnotV.mpr p
theorem w_dif {t : Den Bool} {x y : Den α} (p : EW q t e fun b e' => BR b (EW q x e' P) (EW q y e' P)) : EW q (dif t x y) e P := ew_dif.mpr p
theorem w_dcons {d : Den D} {ds : Den (List D)} {P : List D → Env → Prop} (p : EW q d e fun x e1 => EW q ds e1 fun xs e2 => P (x :: xs) e2) : EW q (dcons d ds) e P := ew_dcons.mpr p
theorem w_dconsV {d : Den D} {ds : Den (List D)} {P : List D → Env → Prop} (p : EW q d e fun x e1 => EW true ds e1 fun xs e2 => P (x :: xs) e2) : EW q (dconsV d ds) e P := ew_dconsV.mpr p
theorem w_darcons {d : Den Rv} {ds : Den (List AR)} {P : List AR → Env → Prop} (p : EW q d e fun x e1 => argP x fun a => EW q ds e1 fun xs e2 => P (a :: xs) e2) : EW q (darcons d ds) e P := ew_darcons.mpr p
theorem w_dtup {ds : Den (List D)} (p : EW q ds e fun xs e' => xs.length ≤ sizeLine ∧ PD (.tup xs) e') : EW q (dtup ds) e PD := ew_dtup.mpr p
theorem w_dlst {ds : Den (List D)} (p : EW q ds e fun xs e' => xs.length ≤ sizeLine ∧ PR (.new (.lst (xs.map O.im))) e') : EW q (dlst ds) e PR := ew_dlst.mpr p
theorem sz {n : Nat} {X : Prop} (h : n ≤ 1000) (p : X) : n ≤ sizeLine ∧ X := ⟨Nat.le_trans h (by decide), p⟩
theorem w_dixO {d : Den O} {di : Den D} (p : EW q d e fun o e1 => EW true di e1 fun i e2 => OP (elemOO o i) fun x => PO x e2) : EW q (dixO d di) e PO := ew_dixO.mpr p
theorem w_sq {d : Den D} {P : List D → Env → Prop} (p : EW q d e fun x e' => OP (seqD x) fun ds => P ds e') : EW q (sq d) e P := ew_sq.mpr p
theorem w_rg {g : List D → Option (List D)} {d : Den (List D)} {P : List D → Env → Prop} (p : EW q d e fun x e' => OP (g x) fun ds => P ds e') : EW q (rg g d) e P := ew_rg.mpr p
theorem w_rvO {r : Rv} (p : rvP r e PO) : EW q (rvO r) e PO := ew_rvO.mpr p
theorem w_dslice {d : Den O} {dl dh : Den (Option Int)} (p : EW q d e fun o e1 => EW true dl e1 fun lo e2 => EW true dh e2 fun hi e3 => OP (cutO o lo hi) fun r => PR r e3) : EW q (dslice d dl dh) e PR := by
  unfold dslice
  simp only [ew_bind, ew_lift, ew_dq]
  exact p
end
section
variable {N : Env → Prop} {R : Rv → Env → Prop} {B C : Env → Prop}
theorem w_next (p : N e) : SW snext e ⟨N, R, B, C⟩ := sw_next.mpr p
theorem w_seq {a b : SDen} (p : SW a e ⟨fun e' => SW b e' ⟨N, R, B, C⟩, R, B, C⟩) : SW (sseq a b) e ⟨N, R, B, C⟩ := sw_seq.mpr p
theorem w_if {t : Den Bool} {a b : SDen} (p : EW false t e fun k e' => BR k (SW a e' ⟨N, R, B, C⟩) (SW b e' ⟨N, R, B, C⟩)) : SW (sif t a b) e ⟨N, R, B, C⟩ := sw_if.mpr p
theorem w_rt {d : Den Rv} (p : EW false d e fun r e' => R r e') : SW (srt d) e ⟨N, R, B, C⟩ := sw_rt.mpr p
theorem w_drop {d : Den Rv} (p : EW false d e fun _ e' => N e') : SW (sdrop d) e ⟨N, R, B, C⟩ := sw_drop.mpr p
theorem w_set {i : Nat} {d : Den Rv} (p : EW false d e fun r e' => setP i r e' N) : SW (sset i d) e ⟨N, R, B, C⟩ := sw_set p
theorem w_app {i : Nat} {d : Den Rv} {b0 : Bool} {os0 : List O} (h : lk e i = some (b0, .lst os0)) (p : EW false d e fun r e1 => rvP r e1 fun o e' => appP i o e' N) : SW (sapp i d) e ⟨N, R, B, C⟩ :=
  sw_app h (ew_imp p fun r e' h => ew_rvO.mpr (by
    unfold rvP appP at h
    cases r with
    | bor j x =>
      dsimp only at h ⊢
      split <;> rename_i hq <;> rw [hq] at h
      · exact h
      · exact h
    | _ => exact h))
theorem w_forP {src : Den (List D)} {bind : D → Env → Option Env} {body : SDen} (p : EW false src e fun ds e' => SW (sloop bind body ds) e' ⟨N, R, B, C⟩) : SW (sforP src bind body) e ⟨N, R, B, C⟩ := sw_forP.mpr p
theorem w_cut {s : SDen} (M : Env → Prop) (h : SW s e ⟨M, R, B, C⟩) (k : ∀ e', M e' → N e') : SW s e ⟨N, R, B, C⟩ := by
  obtain ⟨r, hr, p⟩ := h
  refine ⟨r, hr, ?_⟩
  cases r <;> first | exact k _ p | exact p
theorem w_asg {b : D → Env → Option Env} {d : Den D} (p : EW false d e fun x e' => OP (b x e') N) : SW (sasg b d) e ⟨N, R, B, C⟩ := by
  unfold sasg
  rw [sw_bind]
  refine ew_imp p fun x e' h => ?_
  obtain ⟨z, hz, p⟩ := h
  exact ⟨.nx false z, by dsimp only; rw [hz]; rfl, p⟩
end
/-! ### calls -/
/-- f, given os, ends well -/
def FO (f : FDen) (os : List O) (Post : List O → FRv → Prop) : Prop := ∃ m os' r, f os = some (.ok m os' r) ∧ Post os' r
def rvF : FRv → Rv
  | .im d => .im d
  | .new o => .new o
theorem FO.imp {f : FDen} {os : List O} {P Q : List O → FRv → Prop} (h : FO f os P) (k : ∀ o r, P o r → Q o r) : FO f os Q := by
  obtain ⟨m, os', r, h1, h2⟩ := h
  exact ⟨m, os', r, h1, k _ _ h2⟩
/-- what a def's last state gives -/
def outP (os : List O) (Post : List O → FRv → Prop) (r : Rv) (e : Env) : Prop := match r with
  | .im d => OP (outs os e) fun os' => Post os' (.im d)
  | .new o => OP (outs os e) fun os' => Post os' (.new o)
  | .bor i o => match lk e i with
    | some (false, _) => OP (outs os (e.set i none)) fun os' => Post os' (.new o)
    | _ => False
theorem w_fun {n : Nat} {s : SDen} {os : List O} {Post : List O → FRv → Prop} (h : SW s (env0 os n) ⟨fun e => OP (outs os e) fun os' => Post os' (.im .non), fun r e => outP os Post r e, fun _ => False, fun _ => False⟩) : FO (fnden n s) os Post := by
  obtain ⟨r, hr, p⟩ := h
  unfold FO fnden
  rw [hr]
  cases r with
  | nx m e =>
    obtain ⟨z, hz, p⟩ := p
    dsimp only
    rw [hz]
    exact ⟨m, z, _, rfl, p⟩
  | rt m e r =>
    cases r with
    | im d =>
      obtain ⟨z, hz, p⟩ := p
      dsimp only
      rw [hz]
      exact ⟨m, z, _, rfl, p⟩
    | new o =>
      obtain ⟨z, hz, p⟩ := p
      dsimp only
      rw [hz]
      exact ⟨m, z, _, rfl, p⟩
    | bor i o =>
      unfold SP' outP at p
      dsimp only at p ⊢
      cases hl : lk e i with
      | none => rw [hl] at p; exact False.elim p
      | some x =>
        obtain ⟨b, y⟩ := x
        rw [hl] at p
        cases b with
        | true => exact False.elim p
        | false =>
          obtain ⟨z, hz, p⟩ := p
          rw [lk_some hl]
          dsimp only
          rw [hz]
          exact ⟨m, z, _, rfl, p⟩
  | _ => exact False.elim p
theorem w_fo {n : Nat} {f : FDen} {as : List AR} {os : List O} {ks : List (Option (Nat × Bool))} {e1 : Env} {Post : List O → FRv → Prop} {P : Rv → Env → Prop} (hf : FO f os Post) (hn : as.length = n) (hl : lend as e = some (os, ks, e1)) (hq : q = false ∨ allIm os = true)
    (k : ∀ os' r, Post os' r → OP (unlend ks os' e1) fun e2 => P (rvF r) e2) : EW q (dfnA n f as) e P := by
  obtain ⟨m, os', r, h1, h2⟩ := hf
  obtain ⟨e2, h3, h4⟩ := k os' r h2
  unfold EW dfnA
  rw [if_pos hn, hl]
  dsimp only
  rw [h1]
  have hm : q = true → (m && !allIm os) = false := fun z => by
    rcases hq with h | h
    · rw [h] at z; cases z
    · rw [h]; cases m <;> rfl
  cases r with
  | im d => dsimp only; rw [h3]; exact ⟨_, e2, _, rfl, hm, h4⟩
  | new o => dsimp only; rw [h3]; exact ⟨_, e2, _, rfl, hm, h4⟩
/-- f, given what is frozen alone, ends well -/
def FI (f : FDen) (ds : List D) (Post : FRv → Prop) : Prop := FO f (ds.map O.im) fun os' r => os' = ds.map O.im ∧ Post r
def outI (k : Nat) (Post : FRv → Prop) (r : Rv) (e : Env) : Prop := match r with
  | .im d => k ≤ e.length ∧ Post (.im d)
  | .new o => k ≤ e.length ∧ Post (.new o)
  | .bor i o => k ≤ e.length ∧ match lk e i with
    | some (false, _) => Post (.new o)
    | _ => False
theorem w_fi {n : Nat} {s : SDen} {ds : List D} {Post : FRv → Prop} (h : SW s (env0 (ds.map O.im) n) ⟨fun e => ds.length ≤ e.length ∧ Post (.im .non), fun r e => outI ds.length Post r e, fun _ => False, fun _ => False⟩) : FI (fnden n s) ds Post := by
  refine w_fun ?_
  obtain ⟨r, hr, p⟩ := h
  refine ⟨r, hr, ?_⟩
  cases r with
  | nx m e => exact ⟨_, outs_im ds e p.1, rfl, p.2⟩
  | rt m e r =>
    cases r with
    | im d => exact ⟨_, outs_im ds e p.1, rfl, p.2⟩
    | new d => exact ⟨_, outs_im ds e p.1, rfl, p.2⟩
    | bor i o =>
      obtain ⟨p1, p2⟩ := p
      unfold SP' outP
      dsimp only
      cases hl : lk e i with
      | none => rw [hl] at p2; exact False.elim p2
      | some x =>
        obtain ⟨b, y⟩ := x
        rw [hl] at p2
        cases b with
        | true => exact False.elim p2
        | false => exact ⟨_, outs_im ds (e.set i none) (by rw [List.length_set]; exact p1), rfl, p2⟩
  | _ => exact False.elim p
/-- called with frozen things alone -/
theorem w_call {n : Nat} {f : FDen} {ds : List D} {Post : FRv → Prop} {P : Rv → Env → Prop} (hf : FI f ds Post) (hn : ds.length = n) (k : ∀ r, Post r → P (rvF r) e) : EW q (dfnA n f (ds.map AR.im)) e P :=
  w_fo hf (by rw [List.length_map]; exact hn) (lend_im ds e) (.inr (allIm_map ds)) fun os' r h => by
    obtain ⟨rfl, h⟩ := h
    exact ⟨e, unlend_im ds e, k r h⟩
theorem w_callI {n : Nat} {f : FDen} {ds : List D} {d : D} {P : Rv → Env → Prop} (hf : FI f ds (· = .im d)) (hn : ds.length = n) (k : P (.im d) e) : EW q (dfnA n f (ds.map AR.im)) e P := w_call hf hn fun r h => by rw [h]; exact k
theorem w_callN {n : Nat} {f : FDen} {ds : List D} {o : O} {P : Rv → Env → Prop} (hf : FI f ds (· = .new o)) (hn : ds.length = n) (k : P (.new o) e) : EW q (dfnA n f (ds.map AR.im)) e P := w_call hf hn fun r h => by rw [h]; exact k
/-! ### comprehensions -/
/-- one turn: from e0 and back to it; r is what it gives -/
def CT (q : Bool) (bind : D → Env → Option Env) (tt : Den Bool) (elt : Den Rv) (vs : List Nat) (e0 : Env) (d : D) (r : Option O) : Prop :=
  OP (bind d e0) fun e1 => EW q tt e1 fun b e2 => BR b (EW q elt e2 fun rv e3 => rvP rv e3 fun o e4 => r = some o ∧ wipeE e4 vs = e0) (r = none ∧ wipeE e2 vs = e0)
theorem cloop_ok {bind : D → Env → Option Env} {tt : Den Bool} {elt : Den Rv} {vs : List Nat} {e0 : Env} {f : D → Option O} : ∀ {ds : List D} {acc : List O}, acc.length + ds.length ≤ sizeLine → (∀ d ∈ ds, CT q bind tt elt vs e0 d (f d)) → ∃ m, cloop bind tt elt vs ds acc e0 = some (.ok m e0 (acc ++ ds.filterMap f)) ∧ (q = true → m = false)
  | [], acc, hl, h => ⟨false, by rw [List.filterMap_nil, List.append_nil]; rfl, fun _ => rfl⟩
  | d :: ds, acc, hl, h => by
    rw [List.length_cons] at hl
    obtain ⟨e1, h1, m1, e2, b, h2, hm1, h3⟩ := h d List.mem_cons_self
    unfold cloop
    rw [h1]
    dsimp only
    rw [h2]
    cases b with
    | false =>
      obtain ⟨hf, he⟩ := h3.2 rfl
      obtain ⟨m, hc, hm⟩ := cloop_ok (acc := acc) (ds := ds) (by omega) fun x hx => h x (List.mem_cons_of_mem _ hx)
      dsimp only
      rw [he, hc, List.filterMap_cons_none hf]
      exact ⟨m1 || m, rfl, fun z => by rw [hm1 z, hm z]; rfl⟩
    | true =>
      obtain ⟨m2, e3, rv, h4, hm2, h5⟩ := h3.1 rfl
      obtain ⟨m3, e4, o, h6, _, hf, he⟩ := w_rvO (q := false) h5
      obtain ⟨m, hc, hm⟩ := cloop_ok (acc := acc ++ [o]) (ds := ds) (by rw [List.length_append]; show acc.length + 1 + ds.length ≤ sizeLine; omega) fun x hx => h x (List.mem_cons_of_mem _ hx)
      dsimp only
      rw [h4]
      dsimp only
      rw [h6]
      dsimp only
      rw [if_pos (by omega), he, hc, List.filterMap_cons_some hf, List.append_assoc]
      exact ⟨m1 || m2 || m, rfl, fun z => by rw [hm1 z, hm2 z, hm z]; rfl⟩
theorem w_comp {src : Den (List D)} {bind : D → Env → Option Env} {tt : Den Bool} {elt : Den Rv} {vs : List Nat} {P : Rv → Env → Prop} (f : D → Option O)
    (p : EW q src e fun ds e' => (wiped e' vs = true ∧ restE e' (wipeE e' vs) vs = e') ∧ ds.length ≤ sizeLine ∧ (∀ d ∈ ds, CT q bind tt elt vs (wipeE e' vs) d (f d)) ∧ P (.new (.lst (ds.filterMap f))) e') : EW q (dcomp src bind tt elt vs) e P := by
  unfold dcomp
  rw [ew_bind]
  refine ew_imp p fun ds e' h => ?_
  obtain ⟨⟨h1, h2⟩, h3, h4, h5⟩ := h
  obtain ⟨m, hc, hm⟩ := cloop_ok (q := q) (acc := []) (ds := ds) (by simpa using h3) h4
  refine ⟨m, e', _, ?_, hm, h5⟩
  dsimp only
  rw [if_pos h1, hc]
  dsimp only
  rw [h2]
  rfl
section
variable {PR : Rv → Env → Prop} {PD : D → Env → Prop} {PL : List O → Env → Prop} {N : Env → Prop} {R : Rv → Env → Prop} {B C : Env → Prop}
def mvP (rv : Rv) (e : Env) (P : O → Env → Prop) : Prop := match rv with
  | .im d => P (.im d) e
  | .new o => P o e
  | .bor i _ => match lk e i with
    | some (false, o) => P o (e.set i none)
    | some (true, o) => P (.im o.flat) (e.set i (some (true, .im o.flat)))
    | none => False
theorem mvP_im {P : O → Env → Prop} {d : D} (p : P (.im d) e) : mvP (.im d) e P := p
theorem mvP_new {P : O → Env → Prop} {o : O} (p : P o e) : mvP (.new o) e P := p
theorem mvP_bor {P : O → Env → Prop} {i : Nat} {o x : O} (h : lk e i = some (false, o)) (p : P o (e.set i none)) : mvP (.bor i x) e P := by
  unfold mvP
  dsimp only
  rw [h]
  exact p
theorem w_rvM {rv : Rv} {P : O → Env → Prop} (p : mvP rv e P) : EW q (rvM rv) e P := by
  unfold mvP at p
  unfold EW rvM
  cases rv with
  | im d => exact ⟨_, _, _, rfl, fun _ => rfl, p⟩
  | new d => exact ⟨_, _, _, rfl, fun _ => rfl, p⟩
  | bor i x =>
    dsimp only at p ⊢
    cases h : lk e i with
    | none => rw [h] at p; exact False.elim p
    | some y =>
      obtain ⟨b, y⟩ := y
      rw [h] at p
      rw [lk_some h]
      cases b <;> exact ⟨_, _, _, rfl, fun _ => rfl, p⟩
theorem w_dtmc {d : Den Rv} {ds : Den (List O)} (p : EW q d e fun rv e1 => mvP rv e1 fun o e2 => EW q ds e2 fun os e3 => PL (o :: os) e3) : EW q (dtmc d ds) e PL := by
  unfold dtmc
  rw [ew_bind]
  refine ew_imp p fun rv e1 h => ?_
  rw [ew_bind]
  refine w_rvM ?_
  have : ∀ o e2, (EW q ds e2 fun os e3 => PL (o :: os) e3) → EW q (dbind ds fun os => dpure (o :: os)) e2 PL := fun o e2 h => by
    rw [ew_bind]
    exact ew_imp h fun os e3 h => ew_pure.mpr h
  unfold mvP at h ⊢
  cases rv with
  | im d => exact this _ _ h
  | new d => exact this _ _ h
  | bor i x =>
    dsimp only at h ⊢
    cases h2 : lk e1 i with
    | none => rw [h2] at h; exact False.elim h
    | some y =>
      obtain ⟨b, y⟩ := y
      rw [h2] at h
      cases b <;> exact this _ _ h
theorem w_dtupN {ds : Den (List O)} (p : EW q ds e fun os e' => os.length ≤ sizeLine ∧ PR (.new (.tup os)) e') : EW q (dtupN ds) e PR := by
  unfold dtupN
  rw [ew_bind]
  refine ew_imp p fun os e' h => ew_lift.mpr ⟨_, if_pos h.1, h.2⟩
/-- the items at hand -/
def itP (r : Rv) (e : Env) (P : List D → Env → Prop) : Prop := match r with
  | .im d => OP (seqD d) fun ds => P ds e
  | .new o => OP (seqD o.flat) fun ds => P ds e
  | .bor i _ => match lk e i with
    | some (_, o) => OP (seqO o) fun ds => P ds e
    | none => False
theorem itP_im {P : List D → Env → Prop} {d : D} (p : OP (seqD d) fun ds => P ds e) : itP (.im d) e P := p
theorem itP_new {P : List D → Env → Prop} {o : O} (p : OP (seqD o.flat) fun ds => P ds e) : itP (.new o) e P := p
theorem itP_bor {P : List D → Env → Prop} {i : Nat} {o x : O} {b : Bool} (h : lk e i = some (b, o)) (p : OP (seqO o) fun ds => P ds e) : itP (.bor i x) e P := by
  unfold itP
  dsimp only
  rw [h]
  exact p
theorem w_dlist {d : Den Rv} (p : EW q d e fun r e' => itP r e' fun ds e2 => PR (.new (.lst (ds.map O.im))) e2) : EW q (dlist d) e PR := by
  unfold dlist ar1
  simp only [ew_bind, ew_pure]
  refine ew_imp p fun r e' h => ?_
  unfold itP at h
  unfold EW seqA darg
  cases r with
  | im d => obtain ⟨z, hz, p⟩ := h; dsimp only; rw [hz]; exact ⟨_, _, _, rfl, fun _ => rfl, p⟩
  | new d => obtain ⟨z, hz, p⟩ := h; dsimp only; rw [hz]; exact ⟨_, _, _, rfl, fun _ => rfl, p⟩
  | bor i x =>
    dsimp only at h ⊢
    unfold slotO
    cases h2 : lk e' i with
    | none => rw [h2] at h; exact False.elim h
    | some y =>
      obtain ⟨b, y⟩ := y
      rw [h2] at h
      obtain ⟨z, hz, p⟩ := h
      rw [lk_some h2]
      show ∃ m e'_1 a, ((some y).bind seqO).map _ = _ ∧ _
      rw [Option.bind_some, hz]
      exact ⟨_, _, _, rfl, fun _ => rfl, p⟩
/-- tuple(x), of a list's items -/
def tuP (r : Rv) (e : Env) (P : D → Env → Prop) : Prop := match r with
  | .im (.lst ds) => P (.tup ds) e
  | .im (.scr ds) => P (.tup ds) e
  | .im (.tup ds) => P (.tup ds) e
  | .new (.lst os) => P (.tup (O.flats os)) e
  | .bor i _ => match lk e i with
    | some (_, .lst os) => OP (ims os) fun ds => P (.tup ds) e
    | _ => False
  | _ => False
theorem tuP_lst {P : D → Env → Prop} {ds : List D} (p : P (.tup ds) e) : tuP (.im (.lst ds)) e P := p
theorem w_dtuple {d : Den Rv} (p : EW q d e fun r e' => tuP r e' PD) : EW q (dtuple d) e PD := by
  unfold dtuple ar1
  simp only [ew_bind, ew_pure]
  refine ew_imp p fun r e' h => ?_
  unfold tuP at h
  unfold EW darg
  cases r with
  | im d => cases d <;> first | exact ⟨_, _, _, rfl, fun _ => rfl, h⟩ | exact False.elim h
  | new o => cases o <;> first | exact ⟨_, _, _, rfl, fun _ => rfl, h⟩ | exact False.elim h
  | bor i x =>
    dsimp only at h ⊢
    unfold slotO
    cases h2 : lk e' i with
    | none => rw [h2] at h; exact False.elim h
    | some y =>
      obtain ⟨b, y⟩ := y
      rw [h2] at h
      rw [lk_some h2]
      cases y with
      | lst os =>
        obtain ⟨z, hz, p⟩ := h
        dsimp only
        rw [hz]
        exact ⟨_, _, _, rfl, fun _ => rfl, p⟩
      | _ => exact False.elim h
theorem w_sforI {it : Den Rv} {bind : D → Env → Option Env} {body : SDen} (p : EW false it e fun r e' => match r with
    | .im d => OP (seqD d) fun ds => SW (sloop bind body ds) e' ⟨N, R, B, C⟩
    | .new o => OP (seqD o.flat) fun ds => SW (sloop bind body ds) e' ⟨N, R, B, C⟩
    | .bor i _ => match lk e' i with
      | some (b, o) => OP (seqO o) fun ds => SW (slend i (sloop bind body ds)) e' ⟨N, R, B, C⟩
      | none => False) : SW (sfor it bind body) e ⟨N, R, B, C⟩ := by
  unfold sfor
  rw [sw_bind]
  refine ew_imp p fun r e' h => ?_
  unfold SW
  cases r with
  | im d => obtain ⟨z, hz, p⟩ := h; dsimp only; rw [hz]; exact p
  | new d => obtain ⟨z, hz, p⟩ := h; dsimp only; rw [hz]; exact p
  | bor i x =>
    dsimp only at h ⊢
    cases h2 : lk e' i with
    | none => rw [h2] at h; exact False.elim h
    | some y =>
      obtain ⟨b, y⟩ := y
      rw [h2] at h
      obtain ⟨z, hz, p⟩ := h
      rw [lk_some h2]
      dsimp only
      rw [hz]
      exact p
theorem pins_lk {e : Env} {i : Nat} : True := trivial
/-- a list lent to its own loop -/
theorem w_slend {i : Nat} {s : SDen} {b : Bool} {o : O} (h : lk e i = some (b, o))
    (p : SW s (e.set i (some (true, .im .any))) ⟨fun e' => pins e' = pins (e.set i (some (true, .im .any))) ∧ (∃ z, lk e' i = some (true, z)) ∧ N (e'.set i (some (b, o))),
      fun r e' => pins e' = pins (e.set i (some (true, .im .any))) ∧ (∃ z, lk e' i = some (true, z)) ∧ match r with
        | .bor j x => j ≠ i ∧ R r (e'.set i (some (b, o)))
        | _ => R r (e'.set i (some (b, o))), fun _ => False, fun _ => False⟩) : SW (slend i s) e ⟨N, R, B, C⟩ := by
  obtain ⟨r, hr, p⟩ := p
  unfold SW slend
  rw [lk_some h]
  dsimp only
  rw [hr]
  cases r with
  | nx m e' =>
    obtain ⟨p1, ⟨z, p2⟩, p3⟩ := p
    dsimp only
    rw [if_pos p1, lk_some p2]
    exact ⟨_, rfl, p3⟩
  | rt m e' r =>
    cases r with
    | im d =>
      obtain ⟨p1, ⟨z, p2⟩, p3⟩ := p
      dsimp only
      rw [if_pos p1, lk_some p2]
      exact ⟨_, rfl, p3⟩
    | new d =>
      obtain ⟨p1, ⟨z, p2⟩, p3⟩ := p
      dsimp only
      rw [if_pos p1, lk_some p2]
      exact ⟨_, rfl, p3⟩
    | bor j x =>
      obtain ⟨p1, ⟨z, p2⟩, p3, p4⟩ := p
      dsimp only
      rw [if_neg p3, if_pos p1, lk_some p2]
      exact ⟨_, rfl, p4⟩
  | _ => exact False.elim p
theorem w_appI {i : Nat} {k : Int} {de : Den D} {b0 : Bool} {os0 ls0 : List O} (h0 : lk e i = some (b0, .tup os0)) (h1 : atI os0 k = some (.lst ls0)) (p : EW true de e fun d e' => match lk e' i with
    | some (b, .tup os) => ∃ n ls, ixN os.length k = some n ∧ os[n]? = some (.lst ls) ∧ ls.length < sizeLine ∧ N (e'.set i (some (b, .tup (os.set n (.lst (ls ++ [.im d]))))))
    | _ => False) : SW (sappI i k de) e ⟨N, R, B, C⟩ := by
  unfold SW sappI slotO
  rw [lk_some h0]
  dsimp only
  rw [h1]
  dsimp only
  show SW _ e _
  rw [sw_bind, ew_dq]
  obtain ⟨m, e', d, h3, h4, h5⟩ := p
  refine ⟨m, e', d, h3, (fun _ => h4 rfl), ?_⟩
  unfold SW
  cases h2 : lk e' i with
  | none => rw [h2] at h5; exact False.elim h5
  | some y =>
    obtain ⟨b, y⟩ := y
    rw [h2] at h5
    cases y with
    | tup os =>
      obtain ⟨n, ls, k1, k2, k3, k4⟩ := h5
      dsimp only
      rw [lk_some h2]
      dsimp only
      rw [k1]
      dsimp only
      rw [k2]
      exact ⟨_, if_pos k3, k4⟩
    | _ => exact False.elim h5
end
end
end DL

/-! DLQ: loops over what is only seen: their turns change nothing. -/
namespace DL
open PySem PySem.Spec PyProof.Rows L2 Evl
/-- the items of what is seen -/
def itemsO : O → Option (List D)
  | .im d => seqD d
  | o => seqO o
/-- a turn that goes on has changed nothing -/
def sqt (s : SDen) : SDen := fun e => match s e with
  | some (.nx false e') => some (.nx false e')
  | some (.ct false e') => some (.ct false e')
  | some (.nx true _) => none
  | some (.ct true _) => none
  | r => r
def sforV (d : Den O) (bind : D → Env → Option Env) (body : SDen) : SDen := sbind d fun o => match itemsO o with
  | some ds => sloop bind (sqt body) ds
  | none => fun _ => none
section
variable {K : KB} {W : WX} {c : Ctx} {F H : Hp} {σ : L2.St} {e : Env} {ts : List (V × O)}
theorem AtS.turnQ {b rest : SDen} {D : Ends} {N : L2.St → Hp → Prop} (h : ∃ r, sturn (sqt b e) rest = some r ∧ PostS K W D c F ts H r)
    (k : ∀ F1 H1 σ1 e1, Ex F F1 → Ex H H1 → RE K c F1 H1 σ1 e1 ts → AtS K W rest D c F1 σ1 e1 ts H1 → N σ1 H1) : AtS K W b { D with nx := N, ct := N, bk := D.nx } c F σ e ts H := by
  obtain ⟨r, hr, post⟩ := h
  unfold sqt at hr
  cases hd : b e with
  | none => rw [hd] at hr; cases hr
  | some r1 =>
    rw [hd] at hr
    refine ⟨r1, hd, ?_⟩
    cases r1 with
    | nx m e1 =>
      cases m with
      | true => cases hr
      | false => exact fun F1 H1 σ1 ef eh R => k F1 H1 σ1 e1 ef (eh rfl) R (AtS.more hr ef eh post)
    | ct m e1 =>
      cases m with
      | true => cases hr
      | false => exact fun F1 H1 σ1 ef eh R => k F1 H1 σ1 e1 ef (eh rfl) R (AtS.more hr ef eh post)
    | bk m e1 => cases hr; exact post
    | rt m e1 v => cases hr; exact post
    | er m e1 x => cases hr; exact post
theorem loopQ_ok {X : Cx} {J : It} {P : List V → Hp → Prop} (S : Src J P) {bind : D → Env → Option Env} {sl : List Nat} {body : SDen} {ds : List D} {D0 : Ends} (hP : ∀ F' H' σ' e', Ex F F' → Ex H H' → RE X.B c F' H' σ' e' ts → ∃ xs, P xs H' ∧ Reps X.B F' ds xs) (R : RE X.B c F H σ e ts)
    (h : AtS X.B W (sloop bind (sqt body) ds) D0 c F σ e ts H) :
    ∃ Wv : Nat → Nat → L2.St → Hp → Prop, (∃ m, Wv 0 m σ H) ∧ ∀ i m σ H, Wv i m σ H → (J.stop i H ∧ D0.nx σ H) ∨ (J.go i H ∧ ∃ N : L2.St → Hp → Prop, (∀ σ' H', N σ' H' → ∃ m', m' < m ∧ Wv (i + 1) m' σ' H') ∧
      ∀ x H', J.yld i H x H' → tgR X.B bind sl x σ H' fun σ2 H2 => rdS X.B W body { D0 with nx := N, ct := N, bk := D0.nx } σ2 H2) := by
  refine ⟨fun i m σ H1 => ∃ F1 e1, Ex F F1 ∧ Ex H H1 ∧ RE X.B c F1 H1 σ e1 ts ∧ AtS X.B W (sloop bind (sqt body) (ds.drop i)) D0 c F1 σ e1 ts H1 ∧ m + i = ds.length, ⟨ds.length, F, e, Ex.refl _, Ex.refl _, R, h, by omega⟩, ?_⟩
  rintro i m σ1 H1 ⟨F1, e1, ef, eh, R1, h1, hm⟩
  obtain ⟨xs, p1, hr⟩ := hP F1 H1 σ1 e1 ef eh R1
  have hlen := hr.length
  by_cases hi : i < xs.length
  · refine .inr ⟨S.go i xs H1 p1 hi, fun σ' H' => ∃ F2 e2, Ex F F2 ∧ Ex H H' ∧ RE X.B c F2 H' σ' e2 ts ∧ AtS X.B W (sloop bind (sqt body) (ds.drop (i + 1))) D0 c F2 σ' e2 ts H', ?_, ?_⟩
    · rintro σ' H' ⟨F2, e2, ef2, eh2, R2, h2⟩
      exact ⟨m - 1, by omega, F2, e2, ef2, eh2, R2, h2, by omega⟩
    · intro x H' hy
      obtain ⟨rfl, hx⟩ := S.yld i xs H1 x H' p1 hi hy
      obtain ⟨d, hd, hrep⟩ := hr.getV i hx
      have hdrop : ds.drop i = d :: ds.drop (i + 1) := by
        have hl : i < ds.length := by omega
        rw [List.drop_eq_getElem_cons hl]
        have := (List.getElem?_eq_some_iff.mp hd).2
        rw [this]
      rw [hdrop] at h1
      obtain ⟨r, hr2, post⟩ := h1
      unfold sloop at hr2
      cases hb : bind d e1 with
      | none => rw [hb] at hr2; cases hr2
      | some e2 =>
        rw [hb] at hr2
        refine ⟨c, F1, e1, ts, d, e2, R1, hrep, hb, fun σ' R' _ => ⟨c, F1, e2, ts, R', ?_⟩⟩
        exact AtS.turnQ ⟨r, hr2, post⟩ fun F3 H3 σ3 e3 ef3 eh3 R3 h3 => ⟨F3, e3, ef.trans ef3, eh.trans eh3, R3, h3⟩
  · refine .inl ⟨S.stop i xs H1 p1 (by omega), ?_⟩
    have hdrop : ds.drop i = [] := List.drop_eq_nil_of_le (by omega)
    rw [hdrop] at h1
    exact AtS.next h1 R1
end
section
variable {X : Cx} {W : WX} {tg iter : Expr} {body : List Stmt} {pos : Pos} {bind : D → Env → Option Env} {sl : List Nat} {db : SDen}
theorem items_src {K : KB} {F H : Hp} {o : O} {ds : List D} {v : V} {fs : List Addr} (fh : Ex F H) (h : Own K F H o v fs) (hs : itemsO o = some ds) : ∃ a xs, v = .ref a ∧ Reps K F ds xs ∧ ((SqL K H a xs) ∨ (SqT K H a xs)) := by
  cases o with
  | im d =>
    obtain ⟨a, xs, e1, h1, h2⟩ := seq_src h.2 hs
    refine ⟨a, xs, e1, h1, ?_⟩
    rcases h2 with h2 | h2
    · exact .inl (ex_l fh h2)
    · exact .inr (ex_t fh h2)
  | lst os =>
    have eo := ims_eq hs
    subst eo
    obtain ⟨a, xs, rr, rfl, _, ha, hos⟩ := h
    exact ⟨a, xs, rfl, (of_owns_im hos).1, .inl (SqL.of ha)⟩
  | tup os =>
    have eo := ims_eq hs
    subst eo
    obtain ⟨a, xs, rr, rfl, _, ha, hos⟩ := h
    exact ⟨a, xs, rfl, (of_owns_im hos).1, .inr (SqT.of ha)⟩
  | _ => cases hs
theorem ds_forV {d : Den O} (hp : PassesOwn (model X.prog X.w) X.A X.env X.xe) (hc : X.calm = true) (hi : DO X W iter d) (hg : DG X tg bind sl) (hb : DSs X W body db) (hs : ∀ x, foldedSetIterable iter X.env x = pure x := by intro _; rfl) :
    DS X W (.For tg iter body [] pos) (sforV d bind db) := ⟨ps_weak (ps_for hp hc (pi_seq hi.run) hg.run hb.run hs) fun D0 σ H q => by
  obtain ⟨c, F, e, ts, R, q⟩ := q
  refine ⟨c, F, e, ts, R, q.sbind (rel := relW) fun F1 H1 e1 o v ef hr q1 => ?_⟩
  obtain ⟨r, hr2, post⟩ := q1
  cases hsq : itemsO o with
  | none => rw [hsq] at hr2; cases hr2
  | some ds =>
    rw [hsq] at hr2
    obtain ⟨R1, fs, ho⟩ := hr
    obtain ⟨a, xs, rfl, hrs, hsrc⟩ := items_src R1.fh ho hsq
    refine ⟨a, rfl, ?_⟩
    rcases hsrc with hsrc | hsrc
    · exact .inl ⟨⟨xs, hsrc⟩, loopQ_ok src_list (fun F' H' σ' e' ef' eh' R' => ⟨xs, ex_l eh' hsrc, Reps.mono ef' _ _ hrs⟩) R1 ⟨r, hr2, post⟩⟩
    · exact .inr ⟨⟨xs, hsrc⟩, loopQ_ok src_tup (fun F' H' σ' e' ef' eh' R' => ⟨xs, ex_t eh' hsrc, Reps.mono ef' _ _ hrs⟩) R1 ⟨r, hr2, post⟩⟩⟩
end
/-! ### list(x), tuple(x) of what is seen -/
def tupV : O → Option D
  | .im (.lst ds) => some (.tup ds)
  | .im (.scr ds) => some (.tup ds)
  | .im (.tup ds) => some (.tup ds)
  | .im (.wtp ds) => some (.wtp ds)
  | .lst os => (ims os).map D.tup
  | _ => none
def dtupV (d : Den O) : Den D := dbind d fun o => dlift (tupV o)
def dlistV (d : Den O) : Den Rv := dbind d fun o => dlift ((itemsO o).map fun ds => Rv.new (.lst (ds.map O.im)))
section
variable {X : Cx} {W : WX} {a : Expr} {pos p : Pos} {x : Str} {d : Den O}
theorem de_listV (hg : Gl X x) (hm : X.mg x = none) (hv : bootBuiltins x = some (.type "list")) (ha : DO X W a d) (hn : x ≠ "__name__" := by decide) (hdb : (x == ("__debug__" : Str)) = false := by decide)
    (he : starEach (a :: []) X.env = (false, eval a X.env) :: starEach [] X.env := by rfl) (hpl : (backTo pos (starEach [] X.env)).any (·.1) = false := by rfl) : DE X W (.Call (.Name x p) [a] [] pos) (dlistV d) :=
  ⟨pe_weak (pe_callTy call_list_of hg hm hv (pa_cons ha.run pa_nil he) hn hdb he hpl) fun σ H Q q => by
    obtain ⟨c, F, e, ts, R, q⟩ := q
    refine ⟨c, F, e, ts, R, q.bind (rel := relW) fun F1 H1 e1 o v ef hr q1 => ?_⟩
    obtain ⟨z, hz, k⟩ := q1.lift
    obtain ⟨ds, hd, rfl⟩ := Option.map_eq_some_iff.mp hz
    obtain ⟨R1, fs, ho⟩ := hr
    obtain ⟨p', xs, rfl, hrs, hsq⟩ := items_src R1.fh ho hd
    exact ⟨p', xs, rfl, hsq, fun l hl => k F1 _ (.ref l) (Ex.refl _) (Ex.new hl) (R1.newO hl ⟨l, xs, [], rfl, rfl, upd_same, owns_im hrs⟩)⟩⟩
theorem di_tupV (hg : Gl X x) (hm : X.mg x = none) (hv : bootBuiltins x = some (.type "tuple")) (ha : DO X W a d) (hn : x ≠ "__name__" := by decide) (hdb : (x == ("__debug__" : Str)) = false := by decide)
    (he : starEach (a :: []) X.env = (false, eval a X.env) :: starEach [] X.env := by rfl) (hpl : (backTo pos (starEach [] X.env)).any (·.1) = false := by rfl) : DI X W (.Call (.Name x p) [a] [] pos) (dtupV d) :=
  ⟨pe_weak (pe_callTy call_tuple_of hg hm hv (pa_cons ha.run pa_nil he) hn hdb he hpl) fun σ H Q q => by
    obtain ⟨c, F, e, ts, R, q⟩ := q
    refine ⟨c, F, e, ts, R, q.bind (rel := relW) fun F1 H1 e1 o v ef hr q1 => ?_⟩
    obtain ⟨z, hz, k⟩ := q1.lift
    obtain ⟨R1, fs, ho⟩ := hr
    have mk : ∀ {ds : List D} {p' : Addr} {xs : List V}, z = .tup ds → Reps X.B F1 ds xs → SqL X.B H1 p' xs → v = .ref p' →
        ∃ p ys, [v] = [V.ref p] ∧ ((SqL X.B H1 p ys ∧ ∀ l, H1 l = none → Q (.ref l) (upd H1 l (.tup ys))) ∨ (SqT X.B H1 p ys ∧ Q (.ref p) H1)) := by
      intro ds p' xs ez hrs hsq ev
      subst ev ez
      refine ⟨p', xs, rfl, .inl ⟨hsq, fun l hl => k (upd F1 l (.tup xs)) (upd H1 l (.tup xs)) (.ref l) (Ex.new (none_of_ex R1.fh hl)) (Ex.new hl) ⟨R1.newF hl, l, xs, rfl, SqT.of upd_same, Reps.mono (Ex.new (none_of_ex R1.fh hl)) _ _ hrs⟩⟩⟩
    unfold tupV at hz
    split at hz
    · cases hz
      obtain ⟨p', xs, ev, h1, h2⟩ := ho.2
      exact mk rfl h2 (SqL.of (R1.fh _ _ h1)) ev
    · cases hz
      obtain ⟨p', xs, ev, h1, h2⟩ := ho.2
      exact mk rfl h2 (ex_l R1.fh h1) ev
    · cases hz
      obtain ⟨p', xs, rfl, h1, h2⟩ := id ho.2
      exact ⟨p', xs, rfl, .inr ⟨ex_t R1.fh h1, k F1 H1 _ (Ex.refl _) (Ex.refl _) ⟨R1, ho.2⟩⟩⟩
    · cases hz
      obtain ⟨p', xs, rfl, h1, h2⟩ := id ho.2
      exact ⟨p', xs, rfl, .inr ⟨ex_t R1.fh h1, k F1 H1 _ (Ex.refl _) (Ex.refl _) ⟨R1, ho.2⟩⟩⟩
    · obtain ⟨ds, hd, rfl⟩ := Option.map_eq_some_iff.mp hz
      have eo := ims_eq hd
      subst eo
      obtain ⟨a', xs, rr, ev, _, hA, hos⟩ := ho
      exact mk rfl (of_owns_im hos).1 (SqL.of hA) ev
    · cases hz⟩
end
/-! ### reckoned -/
section
variable {q : Bool} {e : Env}
theorem w_tupV {d : Den O} {P : D → Env → Prop} (p : EW q d e fun o e' => OP (tupV o) fun x => P x e') : EW q (dtupV d) e P := by unfold dtupV; rw [ew_bind]; exact ew_imp p fun o e' h => ew_lift.mpr h
theorem w_listV {d : Den O} {P : Rv → Env → Prop} (p : EW q d e fun o e' => OP (itemsO o) fun ds => P (.new (.lst (ds.map O.im))) e') : EW q (dlistV d) e P := by
  unfold dlistV
  rw [ew_bind]
  refine ew_imp p fun o e' h => ew_lift.mpr ?_
  obtain ⟨z, hz, p⟩ := h
  exact ⟨_, by rw [hz]; rfl, p⟩
end
section
variable {q : Bool} {e : Env} {N : Env → Prop} {R : Rv → Env → Prop} {B C : Env → Prop}
/-- a quiet statement: it returns, or goes on unchanged -/
def SQ (s : SDen) (e : Env) (N : Env → Prop) (R : Rv → Env → Prop) : Prop := SW (sqt s) e ⟨N, R, fun _ => False, N⟩
theorem w_forV {d : Den O} {bind : D → Env → Option Env} {body : SDen} (p : EW false d e fun o e' => OP (itemsO o) fun ds => SW (sloop bind (sqt body) ds) e' ⟨N, R, B, C⟩) : SW (sforV d bind body) e ⟨N, R, B, C⟩ := by
  unfold sforV
  rw [sw_bind]
  refine ew_imp p fun o e' h => ?_
  obtain ⟨z, hz, p⟩ := h
  rw [hz]
  exact p
theorem sqt_if {t : Den Bool} {a b : SDen} (p : EW true t e fun k e' => BR k (SW (sqt a) e' ⟨N, R, B, C⟩) (SW (sqt b) e' ⟨N, R, B, C⟩)) : SW (sqt (sif t a b)) e ⟨N, R, B, C⟩ := by
  obtain ⟨m, e', k, h1, h2, h3⟩ := p
  have hm := h2 rfl
  subst hm
  have key : ∀ s : SDen, SW (sqt s) e' ⟨N, R, B, C⟩ → sif t a b e = SRes.more false (s e') → SW (sqt (sif t a b)) e ⟨N, R, B, C⟩ := fun s hs he => by
    obtain ⟨r, hr, p⟩ := hs
    refine ⟨r, ?_, p⟩
    unfold sqt at hr ⊢
    rw [he]
    cases hse : s e' with
    | none => rw [hse] at hr; cases hr
    | some x =>
      rw [hse] at hr
      cases x <;> exact hr
  cases k with
  | true => exact key a (h3.1 rfl) (by unfold sif sbind; rw [h1]; rfl)
  | false => exact key b (h3.2 rfl) (by unfold sif sbind; rw [h1]; rfl)
theorem sqt_rt {d : Den Rv} (p : SW (srt d) e ⟨N, R, B, C⟩) : SW (sqt (srt d)) e ⟨N, R, B, C⟩ := by
  obtain ⟨r, hr, p⟩ := p
  have h : sqt (srt d) e = srt d e := by
    unfold sqt
    unfold srt sbind at hr ⊢
    cases hd : d e with
    | none => rfl
    | some x => cases x <;> rfl
  exact ⟨r, by rw [h]; exact hr, p⟩
theorem sqt_next (p : N e) : SW (sqt snext) e ⟨N, R, B, C⟩ := ⟨_, rfl, p⟩
theorem outI_im {k : Nat} {Post : FRv → Prop} {d : D} (h : k ≤ e.length) (p : Post (.im d)) : outI k Post (.im d) e := ⟨h, p⟩
theorem outI_new {k : Nat} {Post : FRv → Prop} {o : O} (h : k ≤ e.length) (p : Post (.new o)) : outI k Post (.new o) e := ⟨h, p⟩
theorem outI_bor {k i : Nat} {Post : FRv → Prop} {o x : O} (h : k ≤ e.length) (hl : lk e i = some (false, x)) (p : Post (.new o)) : outI k Post (.bor i o) e := ⟨h, by rw [hl]; exact p⟩
/-- a loop over a range -/
theorem sw_range {n : Int} {bind : D → Env → Option Env} {body : SDen} {A : Aft} (Iv : Nat → Env → Prop) (h0 : Iv 0 e)
    (hs : ∀ (i : Nat) e', i < n.toNat → Iv i e' → OP (bind (.int i) e') fun e1 => SW body e1 ⟨Iv (i + 1), A.R, A.N, Iv (i + 1)⟩) (hd : ∀ e', Iv n.toNat e' → A.N e') : SW (sloop bind body (rangeD 0 n.toNat)) e A := by
  refine sw_loop Iv h0 (fun i d e' hi h' => ?_) fun e' h' => hd e' (by unfold rangeD at h'; simpa using h')
  unfold rangeD at hi
  rw [List.getElem?_map] at hi
  obtain ⟨j, hj, rfl⟩ := Option.map_eq_some_iff.mp hi
  have hj2 := List.getElem?_eq_some_iff.mp hj
  obtain ⟨hlt, hj3⟩ := hj2
  rw [List.getElem_range] at hj3
  subst hj3
  rw [Int.zero_add]
  exact hs i e' (by simpa using hlt) h'
/-- a list of frozen things, held or frozen -/
def Lv (xs : List D) (o : O) : Prop := o = .im (.lst xs) ∨ o = .lst (xs.map O.im)
theorem Lv.flat {xs : List D} {o : O} (h : Lv xs o) : o.flat = .lst xs := by
  rcases h with rfl | rfl
  · rfl
  · show D.lst (O.flats (xs.map O.im)) = _
    rw [flats_im]
theorem Lv.of {xs : List D} : Lv xs (.lst (xs.map O.im)) := .inr rfl
theorem Lv.fz {xs : List D} {o : O} (h : Lv xs o) : Lv xs (.im o.flat) := .inl (by rw [h.flat])
theorem atI_map {α β : Type} (f : α → β) (xs : List α) (i : Int) : L2.atI (xs.map f) i = (L2.atI xs i).map f := by
  unfold L2.atI
  rw [List.length_map]
  cases L2.ixN xs.length i <;> simp
theorem atI_nn {α : Type} (xs : List α) (i : Int) (h : 0 ≤ i) : L2.atI xs i = xs[i.toNat]? := by
  obtain ⟨n, rfl⟩ := Int.eq_ofNat_of_zero_le h
  unfold L2.atI L2.ixN
  rw [if_pos h]
  split
  · rfl
  · rename_i hz
    simp at hz ⊢
    omega
theorem Lv.at {xs : List D} {o : O} {i : Int} (h : Lv xs o) : elemOO o (.int i) = (L2.atI xs i).map O.im := by
  rcases h with rfl | rfl
  · rfl
  · exact atI_map O.im xs i
theorem Lv.items {xs : List D} {o : O} (h : Lv xs o) : itemsO o = some xs := by
  rcases h with rfl | rfl
  · rfl
  · show ims (xs.map O.im) = _
    induction xs with
    | nil => rfl
    | cons x xs ih => show (ims (xs.map O.im)).map _ = _; rw [ih]; rfl
/-- a list of ints at hand -/
def LI (ns : List Int) (o : O) : Prop := Lv (ns.map D.int) o
theorem atI_int {ns : List Int} {i : Int} (h0 : 0 ≤ i) (h1 : i < ns.length) : L2.atI (ns.map D.int) i = some (.int (ns.getD i.toNat 0)) := by
  rw [atI_map, atI_nn _ _ h0, List.getD_eq_getElem?_getD, List.getElem?_eq_getElem (by omega)]
  rfl
theorem op_li {ns : List Int} {o : O} {i : Int} {P : O → Prop} (hL : LI ns o) (h0 : 0 ≤ i) (h1 : i < ns.length) (p : P (.im (.int (ns.getD i.toNat 0)))) : OP (elemOO o (.int i)) P :=
  ⟨_, by rw [Lv.at hL, atI_int h0 h1]; rfl, p⟩
/-- a slot free to be stored to: empty, or filled -/
def fo (s : Option O) : Slot := s.map fun o => (false, o)
theorem fo_free {i : Nat} {s : Option O} (h : e[i]? = some (fo s)) : e.free i = true := by
  unfold Env.free
  rw [h]
  cases s <;> rfl
theorem fo_none : (none : Slot) = fo none := rfl
theorem fo_some (o : O) : (some (false, o) : Slot) = fo (some o) := rfl
theorem op_rng {m : Int} {P : List D → Prop} (h : 0 ≤ m ∧ m ≤ 1000000) (p : P (rangeD 0 m.toNat)) : OP (rng1D [.int m]) P := ⟨_, if_pos (by omega), p⟩
theorem sw_mono {s : SDen} {A A' : Aft} (h : SW s e A) (hN : ∀ e, A.N e → A'.N e) (hR : ∀ r e, A.R r e → A'.R r e) (hB : ∀ e, A.B e → A'.B e) (hC : ∀ e, A.C e → A'.C e) : SW s e A' := by
  obtain ⟨r, hr, p⟩ := h
  refine ⟨r, hr, ?_⟩
  cases r <;> first | exact hN _ p | exact hR _ _ p | exact hB _ p | exact hC _ p | exact p
theorem mem_range {n : Nat} {d : D} (h : d ∈ rangeD 0 n) : ∃ i : Nat, i < n ∧ d = .int i := by
  unfold rangeD at h
  obtain ⟨i, hi, rfl⟩ := List.mem_map.mp h
  exact ⟨i, List.mem_range.mp hi, by rw [Int.zero_add]⟩
theorem log2_lt {j : Int} (h0 : j ≠ 0) (h : j.natAbs < 2 ^ 64) : j ≠ 0 ∧ j.natAbs.log2 < 9000 := ⟨h0, Nat.lt_trans ((Nat.log2_lt (by omega)).mpr h) (by decide)⟩
theorem ints_map : ∀ ns : List Int, intsD (ns.map D.int) = some ns
  | [] => rfl
  | n :: ns => by show (intsD (ns.map D.int)).map _ = _; rw [ints_map ns]; rfl
theorem op_sum {ns : List Int} {P : D → Prop} (p : P (.int ns.sum)) : OP (sumD [.lst (ns.map D.int)]) P := ⟨_, by unfold sumD; show (intsD (ns.map D.int)).map _ = _; rw [ints_map]; rfl, p⟩
theorem w_seqM {a b : SDen} (M : Env → Prop) (h : SW a e ⟨M, R, B, C⟩) (k : ∀ e', M e' → SW b e' ⟨N, R, B, C⟩) : SW (sseq a b) e ⟨N, R, B, C⟩ := w_seq (w_cut M h k)
theorem LI.of {ns : List Int} : LI ns (.lst (ns.map fun n => O.im (D.int n))) := .inr (by rw [List.map_map]; rfl)
theorem flats_int (ns : List Int) : O.flats (ns.map fun n => O.im (D.int n)) = ns.map D.int := by
  rw [← flats_im (ns.map D.int), List.map_map]; rfl
theorem cut_from (xs : List D) (k : Nat) (h : k ≤ xs.length) : cutD xs (some (k : Int)) none = xs.drop k := by
  unfold cutD
  rw [HT.sIx_none, HT.sIx_nat, Nat.min_eq_left h]
  exact List.take_of_length_le (by rw [List.length_drop]; omega)
def fi (s : Option D) : Slot := fo (s.map O.im)
theorem fmap_map {γ : Type} {f : D → Option O} {g : γ → D} {h : γ → O} (hh : ∀ a, f (g a) = some (h a)) : ∀ l : List γ, (l.map g).filterMap f = l.map h
  | [] => rfl
  | a :: l => by rw [List.map_cons, List.filterMap_cons_some (hh a), fmap_map hh l]; rfl
theorem flats_map {γ : Type} (g : γ → D) (l : List γ) : O.flats (l.map fun a => O.im (g a)) = l.map g := by
  rw [← flats_im (l.map g), List.map_map]; rfl
/-- a comprehension over l, by g; no conditions -/
theorem w_compM {γ : Type} {src : Den (List D)} {bind : D → Env → Option Env} {elt : Den Rv} {vs : List Nat} {P : Rv → Env → Prop} (l : List γ) (g : γ → D) (h : γ → O)
    (p : EW q src e fun ds e' => ds = l.map g ∧ (wiped e' vs = true ∧ restE e' (wipeE e' vs) vs = e') ∧ l.length ≤ sizeLine ∧ (∀ a ∈ l, OP (bind (g a) (wipeE e' vs)) fun e1 => EW q elt e1 fun rv e3 => rvP rv e3 fun o e4 => o = h a ∧ wipeE e4 vs = wipeE e' vs) ∧ P (.new (.lst (l.map h))) e') : EW q (dcomp src bind (dpure true) elt vs) e P := by
  obtain ⟨m, e', ds, k1, k2, rfl, k3, k4, k5, k6⟩ := p
  unfold dcomp
  rw [ew_bind]
  refine ⟨m, e', l.map g, k1, k2, ?_⟩
  have key : ∀ {l : List γ} {acc : List O}, acc.length + l.length ≤ sizeLine → (∀ a ∈ l, OP (bind (g a) (wipeE e' vs)) fun e1 => EW q elt e1 fun rv e3 => rvP rv e3 fun o e4 => o = h a ∧ wipeE e4 vs = wipeE e' vs) →
      ∃ m, cloop bind (dpure true) elt vs (l.map g) acc (wipeE e' vs) = some (.ok m (wipeE e' vs) (acc ++ l.map h)) ∧ (q = true → m = false) := by
    intro l
    induction l with
    | nil => intro acc _ _; exact ⟨false, by rw [List.map_nil, List.map_nil, List.append_nil]; rfl, fun _ => rfl⟩
    | cons a l ih =>
      intro acc hl hh
      rw [List.length_cons] at hl
      obtain ⟨e1, h1, m2, e3, rv, h4, hm2, h5⟩ := hh a List.mem_cons_self
      obtain ⟨m3, e4, o, h6, _, hf, he⟩ := w_rvO (q := false) h5
      obtain ⟨m, hc, hm⟩ := ih (acc := acc ++ [o]) (by rw [List.length_append]; show acc.length + 1 + l.length ≤ sizeLine; omega) fun x hx => hh x (List.mem_cons_of_mem _ hx)
      rw [List.map_cons]
      unfold cloop
      rw [h1]
      dsimp only [dpure]
      rw [h4]
      dsimp only
      rw [h6]
      dsimp only
      rw [if_pos (by omega), he, hc, hf, List.append_assoc]
      exact ⟨false || m2 || m, rfl, fun z => by rw [hm2 z, hm z]; rfl⟩
  obtain ⟨m, hc, hm⟩ := key (acc := []) (by simpa using k4) k5
  refine ⟨m, e', _, ?_, hm, k6⟩
  dsimp only
  rw [if_pos k3.1, hc]
  dsimp only
  rw [k3.2]
  rfl
theorem w_sforv {i : Nat} {b : Bool} {d : D} {ds : List D} {bind : D → Env → Option Env} {body : SDen} (h : lk e i = some (b, .im d)) (hs : seqD d = some ds) (p : SW (sloop bind body ds) e ⟨N, R, B, C⟩) : SW (sfor (dvar i) bind body) e ⟨N, R, B, C⟩ :=
  w_sforI (w_varI h ⟨ds, hs, p⟩)
/-- a loop over l's pictures -/
theorem sw_each {γ : Type} {bind : D → Env → Option Env} {body : SDen} {A : Aft} (l : List γ) (g : γ → D) (Iv : Nat → Env → Prop) (h0 : Iv 0 e)
    (hs : ∀ i a e', l[i]? = some a → Iv i e' → OP (bind (g a) e') fun e1 => SW body e1 ⟨Iv (i + 1), A.R, A.N, Iv (i + 1)⟩) (hd : ∀ e', Iv l.length e' → A.N e') : SW (sloop bind body (l.map g)) e A := by
  refine sw_loop Iv h0 (fun i d e' hi h' => ?_) fun e' h' => hd e' (by rwa [List.length_map] at h')
  rw [List.getElem?_map] at hi
  obtain ⟨a, ha, rfl⟩ := Option.map_eq_some_iff.mp hi
  exact hs i a e' ha h'
theorem take_snoc {γ : Type} {l : List γ} {i : Nat} {a : γ} (h : l[i]? = some a) : l.take (i + 1) = l.take i ++ [a] := by
  rw [List.take_succ, h]; rfl
theorem flat_map {γ : Type} (g : γ → D) (l : List γ) : O.flat (.lst (l.map fun a => O.im (g a))) = .lst (l.map g) := by
  show D.lst (O.flats _) = _
  rw [flats_map]
theorem op_isiII {i : Int} {P : D → Prop} (p : P (.bl true)) : OP (isiD [.int i, .ty "int"]) P := ⟨_, rfl, p⟩
theorem op_isiIB {i : Int} {P : D → Prop} (p : P (.bl false)) : OP (isiD [.int i, .ty "bool"]) P := ⟨_, rfl, p⟩
theorem op_isiTT {i : List D} {P : D → Prop} (p : P (.bl true)) : OP (isiD [.tup i, .ty "tuple"]) P := ⟨_, rfl, p⟩
theorem op_isiLL {i : List D} {P : D → Prop} (p : P (.bl true)) : OP (isiD [.lst i, .ty "list"]) P := ⟨_, rfl, p⟩
theorem op_rngG {m : Int} {P : List D → Prop} (h : (0 ≤ m ∧ m ≤ 1000000) ∧ P (rangeD 0 m.toNat)) : OP (rng1D [.int m]) P := op_rng h.1 h.2
end
end DL

/-! DLR: match over written strings. -/
namespace DL
open PySem PySem.Spec PyProof.Rows L2 Evl
/-- cases, the subject at hand -/
structure PMC (X : Cx) (cs : List MatchCase) (t : V → TS) : Prop where
  run : ∀ (first : Bool) (pins : List (Addr × Obj)) (s : Shared) (σ : L2.St) (H : Hp) (D : Ends) (x : V) (u : Value), Inv X pins σ H s → RelV x u → t x D σ H → wpAny (model X.prog X.w) X.A (matchCases cs X.env u first) (SP X pins D) X.xe s
section
variable {X : Cx} {W : WX}
theorem pmc_nil : PMC X [] fun _ => tNext := ⟨fun first pins s σ H D x u I r h => wpAny_matchCases_nil ⟨σ, H, I, h⟩⟩
theorem pmc_str {z : Str} {j : Nat} {p p2 : Pos} {body : List Stmt} {rest : List MatchCase} {tb : TS} {t : V → TS} (hu : X.A.units + 64 < cLine) (hb : PSs X body tb) (hr : PMC X rest t) (hz : PyData.strOk z = true) :
    PMC X (⟨.MatchValue (.Constant (.str z) j p) p2, none, body⟩ :: rest) fun x D σ H => ∃ y, x = .str y ∧ PyData.strOk y = true ∧ if y = z then tb D σ H else t x D σ H := by
  refine ⟨fun first pins s σ H D x u I r h => ?_⟩
  obtain ⟨y, rfl, hy, h⟩ := h
  refine wpAny_matchCases_cons (wpAny_matchPattern_Value (Calls.Constant_str ?_))
  refine thn (op_eqD hu pins _ σ H (.str y) (.str z) u _ (fun v H1 => H1 = H ∧ v = .bl (decide (y = z))) (I.tok _) r ⟨_, rfl⟩ ⟨.str y, .str z, .str y, .str z, by simp [SeqAt.shaped, PyData.canLay0, PyData.depth, hy], by simp [SeqAt.shaped, PyData.canLay0, PyData.depth, hz], rfl, ?_⟩) fun c s2 q => ?_
  · show V.bl (PyData.eqv (.str y) (.str z)) = _
    rw [PyData.eqv]
    by_cases e : y = z
    · subst e; simp
    · rw [decide_eq_false e]; simp [e]
  · obtain ⟨v, H1, I1, r1, rfl, rfl⟩ := q
    obtain rfl : c = .bool (decide (y = z)) := r1
    refine wpAny_truthy_bool ?_
    by_cases e : y = z
    · rw [decide_eq_true e]
      rw [if_pos e] at h
      exact wpAny_assignInOrder_none (hb.run pins s2 σ H1 D I1 h)
    · rw [decide_eq_false e]
      rw [if_neg e] at h
      exact hr.run false pins s2 σ H1 D (.str y) u I1 r h
theorem ps_match {e : Expr} {cs : List MatchCase} {pos : Pos} {te : TE} {t : V → TS} (he : PE X e te) (hc : PMC X cs t) : PS X (.Match e cs pos) fun D σ H => te σ H fun x H1 => t x D σ H1 := by
  refine ⟨fun pins s σ H D I h => ?_⟩
  exact wpAny_Match (thn (he.run pins s σ H _ I h) fun v s1 ⟨x, H1, I1, r1, q1⟩ => hc.run true pins s1 σ H1 D x v I1 r1 q1)
/-- what is done for z -/
def spick (z : Str) : List (Str × SDen) → SDen
  | [] => snext
  | (p, b) :: cs => if z = p then b else spick z cs
def smatch (d : Den D) (cs : List (Str × SDen)) : SDen := sbind d fun x => match x with
  | .str z => if PyData.strOk z = true then spick z cs else fun _ => none
  | _ => fun _ => none
structure DMC (X : Cx) (W : WX) (cs : List MatchCase) (ds : List (Str × SDen)) : Prop where
  run : PMC X cs fun x D σ H => ∃ z, x = .str z ∧ PyData.strOk z = true ∧ ∃ c F e ts, RE X.B c F H σ e ts ∧ AtS X.B W (spick z ds) D c F σ e ts H
theorem pmc_weak {cs : List MatchCase} {t t' : V → TS} (h : PMC X cs t) (k : ∀ v D σ H, t' v D σ H → t v D σ H) : PMC X cs t' := ⟨fun first pins s σ H D x u I r q => h.run first pins s σ H D x u I r (k _ _ _ _ q)⟩
theorem dmc_nil : DMC X W [] [] := ⟨pmc_weak pmc_nil fun v D σ H q => by
  obtain ⟨z, _, _, c, F, e, ts, R, q⟩ := q
  exact q.next R⟩
theorem dmc_cons {z : Str} {j : Nat} {p p2 : Pos} {body : List Stmt} {rest : List MatchCase} {db : SDen} {ds : List (Str × SDen)} (hu : X.A.units + 64 < cLine) (hb : DSs X W body db) (hr : DMC X W rest ds) (hz : PyData.strOk z = true := by decide +kernel) :
    DMC X W (⟨.MatchValue (.Constant (.str z) j p) p2, none, body⟩ :: rest) ((z, db) :: ds) := ⟨pmc_weak (pmc_str hu hb.run hr.run hz) fun v D σ H q => by
  obtain ⟨y, rfl, hy, c, F, e, ts, R, q⟩ := q
  refine ⟨y, rfl, hy, ?_⟩
  unfold spick at q
  by_cases h : y = z
  · rw [if_pos h] at q ⊢
    exact ⟨c, F, e, ts, R, q⟩
  · rw [if_neg h] at q ⊢
    exact ⟨y, rfl, hy, c, F, e, ts, R, q⟩⟩
theorem ds_match {e : Expr} {de : Den D} {cs : List MatchCase} {pos : Pos} {ds : List (Str × SDen)} (he : DI X W e de) (hc : DMC X W cs ds) : DS X W (.Match e cs pos) (smatch de ds) := ⟨ps_weak (ps_match he.run hc.run) fun D0 σ H q => by
  obtain ⟨c, F, e, ts, R, q⟩ := q
  refine ⟨c, F, e, ts, R, q.sbind (rel := relI) fun F1 H1 e1 x v ef hr q1 => ?_⟩
  obtain ⟨r, hr2, post⟩ := q1
  cases x with
  | str z =>
    dsimp only at hr2
    split at hr2
    · rename_i hz
      exact ⟨z, hr.2, hz, c, F1, e1, ts, hr.1, r, hr2, post⟩
    · cases hr2
  | _ => cases hr2⟩
end
section
variable {e : Env} {N : Env → Prop} {R : Rv → Env → Prop} {B C : Env → Prop}
def pickP (x : D) (cs : List (Str × SDen)) (e : Env) (A : Aft) : Prop := match x with
  | .str z => PyData.strOk z = true ∧ SW (spick z cs) e A
  | _ => False
theorem w_match {d : Den D} {cs : List (Str × SDen)} (p : EW false d e fun x e' => pickP x cs e' ⟨N, R, B, C⟩) : SW (smatch d cs) e ⟨N, R, B, C⟩ := by
  unfold smatch
  rw [sw_bind]
  refine ew_imp p fun x e' h => ?_
  unfold pickP at h
  cases x <;> first | exact False.elim h | (dsimp only at h ⊢; rw [if_pos h.1]; exact h.2)
theorem pickP_of {z : Str} {cs : List (Str × SDen)} (hz : PyData.strOk z = true) (p : SW (spick z cs) e ⟨N, R, B, C⟩) : pickP (.str z) cs e ⟨N, R, B, C⟩ := ⟨hz, p⟩
theorem sp_n {z : Str} (p : N e) : SW (spick z []) e ⟨N, R, B, C⟩ := w_next p
theorem sp_t {z : Str} {b : SDen} {cs : List (Str × SDen)} (p : SW b e ⟨N, R, B, C⟩) : SW (spick z ((z, b) :: cs)) e ⟨N, R, B, C⟩ := by
  unfold spick
  rw [if_pos rfl]
  exact p
theorem sp_f {z y : Str} {b : SDen} {cs : List (Str × SDen)} (h : ¬ z = y) (p : SW (spick z cs) e ⟨N, R, B, C⟩) : SW (spick z ((y, b) :: cs)) e ⟨N, R, B, C⟩ := by
  unfold spick
  rw [if_neg h]
  exact p
theorem w_chain {q : Bool} {da db dc : Den D} {g g' : D → D → Option Bool} {P : D → Env → Prop} (p : EW q da e fun x e1 => EW true db e1 fun y e2 => OP (g x y) fun k => BR k (EW true dc e2 fun z e3 => OP (g' y z) fun b => P (.bl b) e3) (P (.bl false) e2)) : EW q (dchain da db dc g g') e P := ew_chain.mpr p
end
section
variable {X : Cx} {W : WX} {a b : Expr} {pos : Pos} {da db : Den D}
/-- an item of what is frozen; the index may do something -/
theorem di_ixI (ha : DI X W a da) (hb : DI X W b db) (hs : PlainIx b := by exact fun _ _ => rfl) : DI X W (.Subscript a b pos) (dbin da db elemD) := ⟨pe_weak (pe_ix ix_seq ha.run hb.run hs) fun σ H Q q => by
  obtain ⟨c, F, e, ts, R, q⟩ := q
  refine ⟨c, F, e, ts, R, q.bind (rel := relI) fun F1 H1 e1 x v ef hr q1 => ⟨c, F1, e1, ts, hr.1, q1.bind (rel := relI) fun F2 H2 e2 y u ef2 hr2 q2 => ?_⟩⟩
  obtain ⟨z, hz, k⟩ := q2.lift
  exact elemD_ok hr2.1.fh (Rep.mono ef2 _ _ hr.2) hr2.2 hz fun w hw => k F2 H2 w (Ex.refl _) (Ex.refl _) ⟨hr2.1, hw⟩⟩
end
theorem op_eli {ns : List Int} {d : D} {i : Int} {P : D → Prop} (hd : d = .lst (ns.map D.int)) (h0 : 0 ≤ i) (h1 : i < ns.length) (p : P (.int (ns.getD i.toNat 0))) : OP (elemD d (.int i)) P := ⟨_, by rw [hd]; exact atI_int h0 h1, p⟩
end DL

/-! DLS: lists put together. -/
namespace DL
open PySem PySem.Spec PyProof.Rows L2 Evl
def lstV : O → Option (List D)
  | .im (.lst ds) => some ds
  | .lst os => ims os
  | _ => none
def catV (a b : O) : Option Rv := match lstV a, lstV b with
  | some xs, some ys => if xs.length + ys.length ≤ sizeLine then some (.new (.lst ((xs ++ ys).map O.im))) else none
  | _, _ => none
def dcat (d f : Den O) : Den Rv := dbind d fun x => dbind (dq f) fun y => dlift (catV x y)
theorem lstV_ok {K : KB} {F H : Hp} {o : O} {ds : List D} {v : V} {fs : List Addr} (fh : Ex F H) (h : Own K F H o v fs) (hs : lstV o = some ds) : ∃ a xs, v = .ref a ∧ Reps K F ds xs ∧ H a = some (.lst xs) := by
  cases o with
  | im d =>
    cases d with
    | lst es => cases hs; obtain ⟨a, xs, e1, h1, h2⟩ := h.2; exact ⟨a, xs, e1, h2, fh _ _ h1⟩
    | _ => cases hs
  | lst os =>
    have eo := ims_eq hs
    subst eo
    obtain ⟨a, xs, rr, rfl, _, ha, hos⟩ := h
    exact ⟨a, xs, rfl, (of_owns_im hos).1, ha⟩
  | _ => cases hs
section
variable {X : Cx} {W : WX} {a b : Expr} {pos : Pos} {da db : Den O}
theorem de_cat (ha : DO X W a da) (hb : DO X W b db) (h : ∀ {ta tb}, PE X a ta → PE X b tb → PE X (.BinOp a .Add b pos) (tOp rCat ta tb)) : DE X W (.BinOp a .Add b pos) (dcat da db) := ⟨pe_weak (h ha.run hb.run) fun σ H Q q => by
  obtain ⟨c, F, e, ts, R, q⟩ := q
  refine ⟨c, F, e, ts, R, q.bind (rel := relW) fun F1 H1 e1 x v ef hr q1 => ⟨c, F1, e1, ts, hr.1, ?_⟩⟩
  have q2 := (q1.bind (rel := relW) (Q' := fun u H2 => Ex H1 H2 → rCat v u H2 Q) fun F2 H2 e2 y u ef2 hr2 q2 ee => by
    obtain ⟨rv, hd, k⟩ := q2.lift
    obtain ⟨fs, ho⟩ := hr.2
    obtain ⟨R2, gs, ho2⟩ := hr2
    unfold catV at hd
    split at hd
    · rename_i xs ys h1 h2
      split at hd
      · rename_i hz
        cases hd
        obtain ⟨a', vs, rfl, r1, k1⟩ := lstV_ok R2.fh (Own.mono ef2 _ _ _ (fun p _ w z => ee p w z) ho) h1
        obtain ⟨b', us, rfl, r2, k2⟩ := lstV_ok R2.fh ho2 h2
        refine ⟨a', b', vs, us, rfl, rfl, k1, k2, by rw [← r1.length, ← r2.length]; exact hz, fun p hp => k F2 _ (.ref p) (Ex.refl _) (Ex.new hp) (R2.newO hp ⟨p, vs ++ us, [], rfl, rfl, upd_same, owns_im (Reps.append r1 r2)⟩)⟩
      · cases hd
    · cases hd).quiet
  obtain ⟨rr, h1, post⟩ := q2
  refine ⟨rr, h1, ?_⟩
  cases rr with
  | err m e1 x => exact post
  | ok m e1 a => exact fun F' H' v' ef' eh hrel => let z := post F' H' v' ef' eh hrel; z.2 z.1 z.1⟩
end
section
variable {q : Bool} {e : Env}
theorem w_cat {d f : Den O} {P : Rv → Env → Prop} (p : EW q d e fun x e1 => EW true f e1 fun y e2 => OP (catV x y) fun r => P r e2) : EW q (dcat d f) e P := by
  unfold dcat
  simp only [ew_bind, ew_lift, ew_dq]
  exact p
end
/-! ### x.pop() -/
def dpop (i : Nat) : Den Rv := fun e => match e[i]? with
  | some (some (b, .lst os)) => match os[os.length - 1]? with
    | some (.im d) => some (.ok true (e.set i (some (b, .lst os.dropLast))) (.im d))
    | _ => none
  | _ => none
theorem owns_pop {K : KB} {F H : Hp} {d0 : D} : ∀ {os : List O} {xs : List V} {fs : List Addr}, Owns K F H os xs fs → os[os.length - 1]? = some (.im d0) → Owns K F H os.dropLast xs.dropLast fs ∧ ∃ x, xs[xs.length - 1]? = some x ∧ Rep K F d0 x
  | [], xs, fs, h, e => by simp at e
  | [o], xs, fs, h, e => by
    obtain ⟨y, r, f1, f2, rfl, rfl, h1, h2⟩ := h
    obtain ⟨rfl, rfl⟩ := h2
    have eo : o = .im d0 := by simpa using e
    subst eo
    obtain ⟨rfl, h1⟩ := h1
    exact ⟨⟨rfl, rfl⟩, y, rfl, h1⟩
  | o :: o2 :: os, xs, fs, h, e => by
    obtain ⟨y, r, f1, f2, rfl, rfl, h1, h2⟩ := h
    have e2 : (o2 :: os)[(o2 :: os).length - 1]? = some (.im d0) := by simpa using e
    obtain ⟨k1, x, k2, k3⟩ := owns_pop h2 e2
    have hl := h2.length
    cases r with
    | nil => simp at hl
    | cons z zs =>
      refine ⟨⟨y, (z :: zs).dropLast, f1, f2, rfl, rfl, h1, k1⟩, x, by simpa using k2, k3⟩
section
variable {X : Cx} {W : WX}
theorem de_pop {i : Nat} {x : Str} {px apos pos : Pos} (h : PE X (.Call (.Attribute (.Name x px) "pop" apos) [] [] pos) (tBM0 X.B "list" rPop (tVar i))) : DE X W (.Call (.Attribute (.Name x px) "pop" apos) [] [] pos) (dpop i) := ⟨pe_weak h fun σ H Q q => by
  obtain ⟨c, F, e, ts, R, r, hr, post⟩ := q
  unfold dpop at hr
  split at hr
  · rename_i b os he
    split at hr
    · rename_i d hd
      cases hr
      obtain ⟨v, f0, hv, how, nd, fr, hc⟩ := R.mutSlot he
      obtain ⟨a, xs, rr, rfl, rfl, ha, hos⟩ := how
      have fa := fr a List.mem_cons_self
      obtain ⟨k1, y, k2, k3⟩ := owns_pop hos hd
      refine ⟨.ref a, hv, .inl ⟨rfl, xs, SqL.of ha⟩, a, xs, y, rfl, rfl, ha, k2, ?_⟩
      refine post F _ y (Ex.refl _) (fun z => by cases z) ⟨hc F _ (.lst os.dropLast) (a :: rr) ⟨Ex.refl _, fun p u z => ?_, fun q u hq z => ?_, fun p hp => .inl hp⟩ ⟨a, xs.dropLast, rr, rfl, rfl, upd_same, ?_⟩ nd fun q hq => ⟨.inl hq, fr q hq⟩, k3⟩
      · rw [upd_ne (fun w => by subst w; rw [fa.1] at z; cases z)]
        exact R.fh p u z
      · rw [upd_ne (fun w => hq (by subst w; exact List.mem_cons_self))]
        exact z
      · refine Owns.mono (Ex.refl _) _ _ _ (fun p hp u z => ?_) k1
        rw [upd_ne (fun w => (List.nodup_cons.mp nd).1 (by subst w; exact hp))]
        exact z
    · cases hr
  · cases hr⟩
end
theorem w_pop {e : Env} {i : Nat} {b : Bool} {os : List O} {d : D} {P : Rv → Env → Prop} (h : lk e i = some (b, .lst os)) (hd : os[os.length - 1]? = some (.im d)) (p : P (.im d) (e.set i (some (b, .lst os.dropLast)))) : EW false (dpop i) e P := by
  unfold EW dpop
  rw [lk_some h]
  dsimp only
  rw [hd]
  exact ⟨_, _, _, rfl, (fun z => by cases z), p⟩
/-! ### x[::-1] -/
def lsqV : O → Option (List D)
  | .im (.lst ds) => some ds
  | .im (.scr ds) => some ds
  | .lst os => ims os
  | _ => none
def drev (d : Den O) : Den Rv := dbind d fun o => dlift ((lsqV o).map fun ds => Rv.new (.lst (ds.reverse.map O.im)))
theorem lsqV_ok {K : KB} {F H : Hp} {o : O} {ds : List D} {v : V} {fs : List Addr} (fh : Ex F H) (h : Own K F H o v fs) (hs : lsqV o = some ds) : ∃ a xs, v = .ref a ∧ Reps K F ds xs ∧ SqL K H a xs := by
  cases o with
  | im d =>
    cases d with
    | lst es => cases hs; obtain ⟨a, xs, e1, h1, h2⟩ := h.2; exact ⟨a, xs, e1, h2, SqL.of (fh _ _ h1)⟩
    | scr es => cases hs; obtain ⟨a, xs, e1, h1, h2⟩ := h.2; exact ⟨a, xs, e1, h2, ex_l fh h1⟩
    | _ => cases hs
  | lst os =>
    have eo := ims_eq hs
    subst eo
    obtain ⟨a, xs, rr, rfl, _, ha, hos⟩ := h
    exact ⟨a, xs, rfl, (of_owns_im hos).1, SqL.of ha⟩
  | _ => cases hs
theorem Reps.rev {K : KB} {F : Hp} : ∀ {ds : List D} {xs : List V}, Reps K F ds xs → Reps K F ds.reverse xs.reverse
  | [], xs, h => by rw [show xs = [] from h]; rfl
  | d :: ds, xs, h => by
    obtain ⟨x, r, rfl, h1, h2⟩ := h
    rw [List.reverse_cons, List.reverse_cons]
    exact Reps.append (Reps.rev h2) ⟨x, [], rfl, h1, rfl⟩
theorem de_rev {X : Cx} {W : WX} {a ex : Expr} {d : Den O} (ha : DO X W a d) (h : ∀ {te}, PE X a te → PE X ex (tRevL X.B te)) : DE X W ex (drev d) := ⟨pe_weak (h ha.run) fun σ H Q q => by
  obtain ⟨c, F, e, ts, R, q⟩ := q
  refine ⟨c, F, e, ts, R, q.bind (rel := relW) fun F1 H1 e1 o v ef hr q1 => ?_⟩
  obtain ⟨z, hz, k⟩ := q1.lift
  obtain ⟨ds, hd, rfl⟩ := Option.map_eq_some_iff.mp hz
  obtain ⟨R1, fs, ho⟩ := hr
  obtain ⟨p', xs, rfl, hrs, hsq⟩ := lsqV_ok R1.fh ho hd
  exact ⟨p', xs, rfl, hsq, fun l hl => k F1 _ (.ref l) (Ex.refl _) (Ex.new hl) (R1.newO hl ⟨l, xs.reverse, [], rfl, rfl, upd_same, owns_im (Reps.rev hrs)⟩)⟩⟩
theorem w_rev {q : Bool} {e : Env} {d : Den O} {P : Rv → Env → Prop} (p : EW q d e fun o e' => OP (lsqV o) fun ds => P (.new (.lst (ds.reverse.map O.im))) e') : EW q (drev d) e P := by
  unfold drev
  rw [ew_bind]
  refine ew_imp p fun o e' h => ew_lift.mpr ?_
  obtain ⟨z, hz, p⟩ := h
  exact ⟨_, by rw [hz]; rfl, p⟩
end DL

/-! DLT: own classes: made, fields stored, methods, properties; defaults. -/
namespace DL
open PySem PySem.Spec PyProof.Rows L2 Evl

/-! ### the machine's side, at the caller's slots -/
section
variable {X : Cx} {CX : CXT} {k : Nat} {f C : Addr} {fd : FuncData} {ps : List Str} {sp : Sp} {dvs : List V} {ds : List Value} {E : L2.St → XK} {x m : Str} {p pos apos : Pos} {e o : Expr} {es : List Expr} {ta : TE} {t : TA}
theorem pe_callSD0 (F : FnOk X.prog X.w X.K X.mg X.base CX k f fd ps sp) (hr : Room k X.A) (hg : Gl X x) (hm : X.mg x = some (.ref f)) (hk : PySem.W.keepIn X.K (.ref f) = true) (hb : Binds X.K fd ps ds) (hd : Vals dvs ds) (hx : ∀ σ, PassesAt CX X σ (E σ))
    (hdb : (x == ("__debug__" : Str)) = false := by decide) : PE X (.Call (.Name x p) [] [] pos) (tCallSD sp dvs E tNil) := by
  refine ⟨fun pins s σ H Q I h => ?_⟩
  refine wpAny_Call_Name_kw (ld_glob I hg hm ?_ hdb)
  exact PySem.W.callWith_K0 I.kIn hk (run_fnSD (us := []) F hr hb hd (hx σ) I .nil h)
def tMethSD (C : Addr) (m : Str) (sp : Sp) (dvs : List V) (E : L2.St → XK) (ta : TE) (t : TA) : TE := fun σ H Q => ta σ H fun x H1 => ∃ a dx fs, x = .ref a ∧ H1 a = some (.ins C dx fs) ∧ fs.lookup m = none ∧
  t σ H1 fun vs H2 => sp (x :: (vs ++ dvs)) H2 Q (E σ)
theorem pe_methSD {pl : Sem Bool} (he : PE X o ta) (c : Cls X.K C) (hm : Meth X.K C m f) (F : FnOk X.prog X.w X.K X.mg X.base CX k f fd ps sp) (hr : Room k X.A) (hb : Binds X.K fd ps ds) (hd : Vals dvs ds) (hx : ∀ σ, PassesAt CX X σ (E σ)) (ha : PA X (e :: es) t)
    (hst : starEach (e :: es) X.env = (false, eval e X.env) :: starEach es X.env := by rfl) (hpl : (backTo pos (starEach es X.env)).any (·.1) = false := by rfl)
    (ht : eval (.Call (.Attribute o m apos) (e :: es) [] pos) X.env = (do
      let ov ← eval o X.env
      standAt apos.atName
      let (f, first) ← holding [ov] (getMethod ov m pl)
      callWith pos f first (backTo pos (starEach (e :: es) X.env)) (backToKw pos (keywordEach [] X.env))) := by rfl) :
    PE X (.Call (.Attribute o m apos) (e :: es) [] pos) (tMethSD C m sp dvs E ta t) := by
  refine ⟨fun pins s σ H Q I h => ?_⟩
  refine PySem.W.methodCall_KW (pl := pl) (thn (he.run pins s σ H _ I h) fun u s1 ⟨x, H1, I1, rx, a, dx, fs, ex, ea, l, q⟩ => ?_) ht
  subst ex
  obtain rfl : u = Value.ref a := rx
  refine getmeth_ok I1 ea c hm l ?_
  refine PySem.W.callWith_K (first := [.ref a]) (h₀ := X.base) I.ok.mod.kin hm.kp (thn (ha.run pos pins s1 σ H1 _ I1 q) fun us s2 ⟨vs, H2, I2, r, q2⟩ => ⟨I2.kIn, ?_⟩) hst hpl
  exact run_fnSD (us := .ref a :: us) (vs := .ref a :: vs) F hr hb hd (hx σ) I2 (.cons rfl r) q2
theorem pe_methSD0 {pl : Sem Bool} (he : PE X o ta) (c : Cls X.K C) (hm : Meth X.K C m f) (F : FnOk X.prog X.w X.K X.mg X.base CX k f fd ps sp) (hr : Room k X.A) (hb : Binds X.K fd ps ds) (hd : Vals dvs ds) (hx : ∀ σ, PassesAt CX X σ (E σ))
    (ht : eval (.Call (.Attribute o m apos) [] [] pos) X.env = (do
      let ov ← eval o X.env
      standAt apos.atName
      let (f, first) ← holding [ov] (getMethod ov m pl)
      callWith pos f first (backTo pos (starEach [] X.env)) (backToKw pos (keywordEach [] X.env))) := by rfl) :
    PE X (.Call (.Attribute o m apos) [] [] pos) (tMethSD C m sp dvs E ta tNil) := by
  refine ⟨fun pins s σ H Q I h => ?_⟩
  refine PySem.W.methodCall_KW (pl := pl) (thn (he.run pins s σ H _ I h) fun u s1 ⟨x, H1, I1, rx, a, dx, fs, ex, ea, l, q⟩ => ?_) ht
  subst ex
  obtain rfl : u = Value.ref a := rx
  refine getmeth_ok I1 ea c hm l ?_
  exact PySem.W.callWith_K0 (first := [.ref a]) I1.kIn hm.kp (run_fnSD (us := [.ref a]) (vs := [.ref a]) F hr hb hd (hx σ) I1 (.cons rfl .nil) q)
/-- C(..): a new instance and its dict, then __init__; kw: the keywords -/
def tMakeSD (C : Addr) (sp : Sp) (g : List V → List V → List V) (n m : Nat) (E : L2.St → XK) (t tk : TA) : TE := fun σ H Q => t σ H fun vs H1 => tk σ H1 fun zs H2 => vs.length = n ∧ zs.length = m ∧ ∀ x dx, H2 x = none → H2 dx = none → dx ≠ x →
  sp (g (.ref x :: vs) zs) (upd (upd H2 dx (.own x)) x (.ins C dx [])) (fun v H3 => v = .non ∧ Q (.ref x) H3) (E σ)
theorem run_makeSD {n : Nat} {ks : List Str} {g : List Value → List Value → List Value} {gV : List V → List V → List V} {pins : List (Addr × Obj)} {σ : L2.St} {H : Hp} {s : Shared} {Q : VK} {us ws : List Value} {vs zs : List V} (M : Mk X.K C f) (F : FnOk X.prog X.w X.K X.mg X.base CX k f fd ps sp) (hr : Room (k + 1) X.A) (hb : KBn X.K fd ps (n + 1) ks g gV) (hx : PassesAt CX X σ (E σ))
    (I : Inv X pins σ H s) (r : Vals vs us) (rz : Vals zs ws) (l1 : vs.length = n) (l2 : zs.length = ks.length)
    (h : ∀ x dx, H x = none → H dx = none → dx ≠ x → sp (gV (.ref x :: vs) zs) (upd (upd H dx (.own x)) x (.ins C dx [])) (fun v H2 => v = .non ∧ Q (.ref x) H2) (E σ)) :
    wpAny (model X.prog X.w) X.A (call (.ref C) us (ks.zip ws)) (EP X pins σ Q) X.xe s := by
  have hq := h (s.heap.objs.size + 1) s.heap.objs.size (I.hok.fresh (Nat.le_succ _)) (I.hok.fresh (Nat.le_refl _)) (Nat.ne_of_lt (Nat.lt_succ_self _))
  have I2 := Inv.made (C := C) I
  have r1 : Vals (V.ref (s.heap.objs.size + 1) :: vs) (Value.ref (s.heap.objs.size + 1) :: us) := .cons rfl r
  have r2 := hb.rel r1 rz
  have n1 : (Value.ref (s.heap.objs.size + 1) :: us).length = n + 1 := by
    rw [List.length_cons, ← r.length, l1]
  refine wpAny_call (make_map (f := f) I.kIn M.makes M.init (beq_iff_eq.mp M.fn) (codeAny_mono (F.run _ X.stack _ _ ⟨Value.ref (s.heap.objs.size + 1) :: us, ks.zip ws⟩ (g (Value.ref (s.heap.objs.size + 1) :: us) ws) _ _ (E σ) (hr.make C us (ks.zip ws))
    (I2.env0.make C us (ks.zip ws)) (hb.to _ (Value.ref (s.heap.objs.size + 1) :: us) ws I2.kIn n1 (rz.length.symm.trans l2)) r2 hq) fun r s' hq' => ?_))
  cases r with
  | error e => exact hx pins _ _ e s' I2 hq'
  | ok fl =>
    cases fl with
    | ret u =>
      obtain ⟨v, H', I3, rv, ev, q3⟩ := I2.after hq'
      subst ev
      exact ⟨rv, ⟨V.ref (s.heap.objs.size + 1), H', I3, rfl, q3⟩⟩
    | next => exact False.elim hq'
    | brk => exact False.elim hq'
    | cont => exact False.elim hq'
/-- how positional arguments alone bind, as KBn -/
theorem kbn_of {K : PySem.W.Frag} {n : Nat} (hb : Binds K fd ps ds) (hd : Vals dvs ds) (hl : n + 1 + ds.length = ps.length) : KBn K fd ps (n + 1) [] (fun us _ => us ++ ds) (fun vs _ => vs ++ dvs) :=
  ⟨fun s us ws X l1 _ => by
    have := hb s us X (by rw [List.length_append, l1]; exact hl)
    simpa using this, fun r _ => r.append hd⟩
def tN0 : TA := fun _ H Q => Q [] H
theorem pe_makeSD {n : Nat} (M : Mk X.K C f) (F : FnOk X.prog X.w X.K X.mg X.base CX k f fd ps sp) (hr : Room (k + 1) X.A) (hg : Gl X x) (hm : X.mg x = some (.ref C)) (hb : Binds X.K fd ps ds) (hd : Vals dvs ds) (hl : n + 1 + ds.length = ps.length) (hx : ∀ σ, PassesAt CX X σ (E σ))
    (ha : PA X (e :: es) t) (hdb : (x == ("__debug__" : Str)) = false := by decide) (he : starEach (e :: es) X.env = (false, eval e X.env) :: starEach es X.env := by rfl) (hpl : (backTo pos (starEach es X.env)).any (·.1) = false := by rfl) :
    PE X (.Call (.Name x p) (e :: es) [] pos) (tMakeSD C sp (fun vs _ => vs ++ dvs) n 0 E t tN0) := by
  refine ⟨fun pins s σ H Q I h => ?_⟩
  refine wpAny_Call_Name_kw (ld_glob I hg hm ?_ hdb)
  refine PySem.W.callWith_K (h₀ := X.base) I.ok.mod.kin M.kp (thn (ha.run pos pins s σ H _ I h) fun us s1 ⟨vs, H1, I1, r, l1, l2, q⟩ => ⟨I1.kIn, ?_⟩) he hpl
  exact run_makeSD (ks := []) (ws := []) (zs := []) M F hr (kbn_of hb hd hl) (hx σ) I1 r .nil l1 rfl q
theorem pe_makeSD0 (M : Mk X.K C f) (F : FnOk X.prog X.w X.K X.mg X.base CX k f fd ps sp) (hr : Room (k + 1) X.A) (hg : Gl X x) (hm : X.mg x = some (.ref C)) (hb : Binds X.K fd ps ds) (hd : Vals dvs ds) (hl : 0 + 1 + ds.length = ps.length) (hx : ∀ σ, PassesAt CX X σ (E σ))
    (hdb : (x == ("__debug__" : Str)) = false := by decide) :
    PE X (.Call (.Name x p) [] [] pos) (tMakeSD C sp (fun vs _ => vs ++ dvs) 0 0 E tN0 tN0) := by
  refine ⟨fun pins s σ H Q I h => ?_⟩
  refine wpAny_Call_Name_kw (ld_glob I hg hm ?_ hdb)
  exact PySem.W.callWith_K0 I.kIn M.kp (run_makeSD (us := []) (vs := []) (ks := []) (ws := []) (zs := []) M F hr (kbn_of hb hd hl) (hx σ) I .nil .nil rfl rfl h.2.2)
theorem pe_makeKSD0 {ks : List Str} {g : List Value → List Value → List Value} {gV : List V → List V → List V} {kws : List Keyword} {tk : TA} (M : Mk X.K C f) (F : FnOk X.prog X.w X.K X.mg X.base CX k f fd ps sp) (hr : Room (k + 1) X.A) (hg : Gl X x) (hm : X.mg x = some (.ref C)) (hb : KBn X.K fd ps 1 ks g gV) (hx : ∀ σ, PassesAt CX X σ (E σ)) (hkw : PK X kws tk)
    (hall : (backToKw pos (keywordEach kws X.env)).all (·.1.isSome) = true := by rfl) (hks : (backToKw pos (keywordEach kws X.env)).filterMap (·.1) = ks := by rfl) (hdb : (x == ("__debug__" : Str)) = false := by decide)
    (hpl : ((backTo pos (starEach [] X.env)).any (·.1) || (backToKw pos (keywordEach kws X.env)).any (·.1.isNone)) = false := by rfl) :
    PE X (.Call (.Name x p) [] kws pos) (tMakeSD C sp gV 0 ks.length E tN0 tk) := by
  refine ⟨fun pins s σ H Q I h => ?_⟩
  refine wpAny_Call_Name_kw (ld_glob I hg hm ?_ hdb)
  refine PySem.W.callWith_KW0 (h₀ := X.base) I.ok.mod.kin M.kp hall ?_ hpl
  refine thn (hkw.run pos pins s σ H _ I h) fun ws s2 ⟨zs, H2, I2, rz, l1, l2, q2⟩ => ⟨I2.kIn, ?_⟩
  rw [hks]
  exact run_makeSD (us := []) (vs := []) M F hr hb (hx σ) I2 .nil rz rfl l2 q2
theorem pe_makeKSD {n : Nat} {ks : List Str} {g : List Value → List Value → List Value} {gV : List V → List V → List V} {kws : List Keyword} {tk : TA} (M : Mk X.K C f) (F : FnOk X.prog X.w X.K X.mg X.base CX k f fd ps sp) (hr : Room (k + 1) X.A) (hg : Gl X x) (hm : X.mg x = some (.ref C)) (hb : KBn X.K fd ps (n + 1) ks g gV) (hx : ∀ σ, PassesAt CX X σ (E σ)) (ha : PA X (e :: es) t) (hkw : PK X kws tk)
    (hall : (backToKw pos (keywordEach kws X.env)).all (·.1.isSome) = true := by rfl) (hks : (backToKw pos (keywordEach kws X.env)).filterMap (·.1) = ks := by rfl) (hdb : (x == ("__debug__" : Str)) = false := by decide)
    (he : starEach (e :: es) X.env = (false, eval e X.env) :: starEach es X.env := by rfl) (hpl : ((backTo pos (starEach (e :: es) X.env)).any (·.1) || (backToKw pos (keywordEach kws X.env)).any (·.1.isNone)) = false := by rfl) :
    PE X (.Call (.Name x p) (e :: es) kws pos) (tMakeSD C sp gV n ks.length E t tk) := by
  refine ⟨fun pins s σ H Q I h => ?_⟩
  refine wpAny_Call_Name_kw (ld_glob I hg hm ?_ hdb)
  refine PySem.W.callWith_KW (h₀ := X.base) I.ok.mod.kin M.kp hall (thn (ha.run pos pins s σ H _ I h) fun us s1 ⟨vs, H1, I1, r, q⟩ => ?_) hpl he
  refine thn (hkw.run pos pins s1 σ H1 _ I1 q) fun ws s2 ⟨zs, H2, I2, rz, l1, l2, q2⟩ => ⟨I2.kIn, ?_⟩
  rw [hks]
  exact run_makeSD M F hr hb (hx σ) I2 r rz l1 l2 q2
end

/-! ### arguments with defaults; a call -/
section
variable {K : KB} {c : Ctx} {F F' H H' : Hp} {σ : L2.St} {e : Env} {ts : List (V × O)}
/-- what a def is handed stands ahead of the temporaries -/
theorem RE.callee2 {n : Nat} {f : FDen} {vs : List V} {os : List O} {r : FRes} {Q : VK} {E : XK} (R : RE K c F H σ e (vs.zip os ++ ts)) (hv : vs.length = n) (ho : os.length = n) (hf : f os = some r)
    (post : match r with
      | .ok m os' rv => ∀ F' H' v, Ex F F' → (m = false → Ex H H') → (∃ f1, Held K F H (vs.zip os) f1 ∧ ∀ p u, p ∉ f1 → H p = some u → H' p = some u) → RE K c F' H' σ e (frvs rv v ++ vs.zip os' ++ ts) → FRep K F' rv v → Q v H'
      | .err m os' x => ∀ F' H' cls d, Ex F F' → (m = false → Ex H H') → (∃ f1, Held K F H (vs.zip os) f1 ∧ ∀ p u, p ∉ f1 → H p = some u → H' p = some u) → RE K c F' H' σ e (vs.zip os' ++ ts) → XRel K F' H' x cls d → E cls d H') : spD K n f vs H Q E := by
  obtain ⟨hs, fs, h1, h2, h3, h4⟩ := R.hd
  rw [List.append_assoc] at h2
  obtain ⟨f1, f2, e1, h5, h6⟩ := h2.split
  subst e1
  obtain ⟨n1, n2, n3⟩ := List.nodup_append.mp h3
  have th2 : ∀ p ∈ f2, H p ≠ none := Held.there h6
  have core : ∀ {F' H' : Hp} {L : List (V × O)} {fs' : List Addr}, Ex F F' → Ex F' H' → (∀ p u, p ∉ f1 → H p = some u → H' p = some u) → (∀ p, F' p ≠ none → F p ≠ none ∨ H p = none ∨ p ∈ f1) → Held K F' H' L fs' → fs'.Nodup → (∀ p ∈ fs', F' p = none ∧ (p ∈ f1 ∨ H p = none)) →
      RE K c F' H' σ e (L ++ ts) := by
    intro F' H' L fs' ef fh keep nw hh nd hfs
    have out2 : ∀ p ∈ f2, p ∉ f1 := fun p hp hp1 => n3 p hp1 p hp rfl
    refine ⟨fun p u z => keep p u (fun hp => ?_) (R.g p u z), R.f0.trans ef, fh, fun p hp => ?_, hs, fs' ++ f2, h1, ?_, List.nodup_append.mpr ⟨nd, n2, fun a ha b hb z => ?_⟩, fun p hp => ?_⟩
    · rw [(h4 p (List.mem_append_left _ hp)).2] at z
      cases z
    · rcases nw p hp with z | z | z
      · exact R.nw p z
      · exact .inr (none_of_ex R.g z)
      · exact .inr (h4 p (List.mem_append_left _ z)).2
    · rw [List.append_assoc]
      exact Held.join hh (Held.mono ef (fun p hp u z => keep p u (out2 p hp) z) h6)
    · subst z
      rcases (hfs a ha).2 with z | z
      · exact out2 a hb z
      · exact th2 a hb z
    · rcases List.mem_append.mp hp with z | z
      · refine ⟨(hfs p z).1, ?_⟩
        rcases (hfs p z).2 with w | w
        · exact (h4 p (List.mem_append_left _ w)).2
        · exact none_of_ex R.g w
      · obtain ⟨q1, q2⟩ := h4 p (List.mem_append_right _ z)
        refine ⟨?_, q2⟩
        cases q : F' p with
        | none => rfl
        | some u =>
          rcases nw p (by rw [q]; simp) with w | w | w
          · exact absurd q1 w
          · exact absurd w (th2 p z)
          · exact absurd w (out2 p z)
  refine ⟨hv, F, os, f1, r, ho, h5, n1, fun p hp => (h4 p (List.mem_append_left _ hp)).1, R.fh, hf, ?_⟩
  cases r with
  | ok m os' rv =>
    intro F' H' v fs' ef fh eh keep nw hrep hh nd hfs
    exact post F' H' v ef eh ⟨f1, h5, keep⟩ (core ef fh keep nw hh nd hfs) hrep
  | err m os' x =>
    intro F' H' cls d fs' ef fh eh keep nw hx hh nd hfs
    exact post F' H' cls d ef eh ⟨f1, h5, keep⟩ (core ef fh keep nw hh nd hfs) hx

theorem arel_of {K : KB} {F : Hp} {σ : L2.St} : ∀ {ds : List D} {ws : List V}, Reps K F ds ws → ARel K F σ (ds.map AR.im) ws
  | [], ws, h => h
  | d :: ds, ws, h => by
    obtain ⟨x, r, rfl, h3, h4⟩ := h
    exact ⟨x, r, rfl, h3, arel_of h4⟩
theorem ARel.append {K : KB} {F : Hp} {σ : L2.St} : ∀ {as : List AR} {vs : List V} {ds : List D} {ws : List V}, ARel K F σ as vs → Reps K F ds ws → ARel K F σ (as ++ ds.map AR.im) (vs ++ ws)
  | [], vs, ds, ws, h, h2 => by
    rw [show vs = [] from h]
    exact arel_of h2
  | .im d :: as, vs, ds, ws, h, h2 => by
    obtain ⟨v, r, rfl, h1, h3⟩ := h
    exact ⟨v, r ++ ws, rfl, h1, ARel.append h3 h2⟩
  | .bor i :: as, vs, ds, ws, h, h2 => by
    obtain ⟨v, r, rfl, h1, h3⟩ := h
    exact ⟨v, r ++ ws, rfl, h1, ARel.append h3 h2⟩
/-- defaults: data that stands at every heap -/
def Dfl (K : KB) (dd : List D) (dvs : List V) : Prop := ∀ F : Hp, Reps K F dd dvs
end
section
variable {X : Cx} {W : WX} {a : Expr} {es : List Expr} {pos p apos : Pos} {x m : Str} {k : Nat} {f C : Addr} {fd : FuncData} {ps : List Str} {fn : FDen} {dd : List D} {dvs : List V} {dl : List Value}
/-- f(a, ..), the rest by defaults -/
theorem de_callD {n : Nat} {ds : Den (List AR)} (Fn : FnOk X.prog X.w X.K X.mg X.base (L2.CX X.prog X.w) k f fd ps (spD X.B n fn)) (tk : Takes X W) (hr : Room k X.A) (hg : Gl X x) (hm : X.mg x = some (.ref f)) (hk : PySem.W.keepIn X.K (.ref f) = true) (hb : Binds X.K fd ps dl) (hd : Vals dvs dl) (hdd : Dfl X.B dd dvs)
    (ha : DAR X W (a :: es) ds) (hdb : (x == ("__debug__" : Str)) = false := by decide) (he : starEach (a :: es) X.env = (false, eval a X.env) :: starEach es X.env := by rfl) (hpl : (backTo pos (starEach es X.env)).any (·.1) = false := by rfl) :
    DE X W (.Call (.Name x p) (a :: es) [] pos) (dbind ds fun as => dfnA n fn (as ++ dd.map AR.im)) := ⟨pe_weak (pe_callSD Fn hr hg hm hk hb hd (fun σ => passAt tk σ) ha.run hdb he hpl) fun σ H Q q => by
  obtain ⟨c, F, e, ts, R, q⟩ := q
  refine ⟨c, F, e, ts, R, q.bind (rel := relAR) fun F1 H1 e1 dl v ef hr1 q1 => ?_⟩
  exact spD_ofA hr1.1 (hr1.2.append (hdd F1)) q1⟩
theorem de_call0 {n : Nat} (Fn : FnOk X.prog X.w X.K X.mg X.base (L2.CX X.prog X.w) k f fd ps (spD X.B n fn)) (tk : Takes X W) (hr : Room k X.A) (hg : Gl X x) (hm : X.mg x = some (.ref f)) (hk : PySem.W.keepIn X.K (.ref f) = true) (hb : Binds X.K fd ps dl) (hd : Vals dvs dl) (hdd : Dfl X.B dd dvs)
    (hdb : (x == ("__debug__" : Str)) = false := by decide) : DE X W (.Call (.Name x p) [] [] pos) (dfnA n fn (dd.map AR.im)) := ⟨pe_weak (pe_callSD0 Fn hr hg hm hk hb hd (fun σ => passAt tk σ) hdb) fun σ H Q q => by
  obtain ⟨c, F, e, ts, R, q⟩ := q
  show spD X.B n fn ([] ++ dvs) H Q _
  exact spD_ofA (as := dd.map AR.im) R (ARel.append (as := []) (vs := []) rfl (hdd F)) q⟩

/-! ### a new instance -/
def dmakeA (C : Addr) (n : Nat) (f : FDen) (as : List AR) : Den Rv := fun e => if as.length + 1 = n then (match lend as e with
  | some (os, ks, e1) => match f (.ins C [] [] :: os) with
    | some (.ok m (o :: os') (.im .non)) => (unlend ks os' e1).map fun e2 => .ok (m && !allIm os) e2 (.new o)
    | some (.err m (_ :: os') x) => (unlend ks os' e1).map fun e2 => .err (m && !allIm os) e2 x
    | _ => none
  | none => none) else none
theorem spD_makeA {K : KB} {c : Ctx} {F H : Hp} {σ : L2.St} {e : Env} {ts : List (V × O)} {W : WX} {n : Nat} {f : FDen} {as : List AR} {vs : List V} {Q : VK} {C : Addr} (R : RE K c F H σ e ts) (hr : ARel K F σ as vs) (q : At relR K W (dmakeA C n f as) c F σ e ts H Q) (x dx : Addr) (hx : H x = none) (hdx : H dx = none) :
    spD K n f (.ref x :: vs) (upd (upd H dx (.own x)) x (.ins C dx [])) (fun v H2 => v = .non ∧ Q (.ref x) H2) (fun cls d H' => W cls d σ H') := by
  obtain ⟨r, hr2, post⟩ := q
  unfold dmakeA at hr2
  split at hr2
  · rename_i hn
    cases hl : lend as e with
    | none => rw [hl] at hr2; cases hr2
    | some q =>
      rw [hl] at hr2
      obtain ⟨os, ks, e1⟩ := q
      obtain ⟨R1, l1, k1⟩ := R.lend hr hl
      dsimp only at hr2
      have em := ex_made (C := C) hx hdx
      have R2 : RE K c F (upd (upd H dx (.own x)) x (.ins C dx [])) σ e1 ((V.ref x :: vs).zip (O.ins C [] [] :: os) ++ ts) :=
        R1.called (v := .ref x) (o := .ins C [] []) (fs := [x]) (Ex.refl _) em (R1.fh.trans em) Fresh.refl ⟨x, dx, [], [], rfl, rfl, upd_same, rfl, ⟨rfl, rfl⟩⟩ (List.nodup_cons.mpr ⟨fun z => (nomatch z), List.nodup_nil⟩) fun p hp => by
          have e1 : p = x := by simpa using hp
          subst e1
          exact ⟨none_of_ex R1.fh hx, hx⟩
      -- the old heap is kept, if the rest is frozen
      have keep : ∀ {H' : Hp} {m : Bool}, (m = false → Ex (upd (upd H dx (.own x)) x (.ins C dx [])) H') → (∃ f1, Held K F (upd (upd H dx (.own x)) x (.ins C dx [])) ((V.ref x :: vs).zip (O.ins C [] [] :: os)) f1 ∧ ∀ p u, p ∉ f1 → (upd (upd H dx (.own x)) x (.ins C dx [])) p = some u → H' p = some u) → (m && !allIm os) = false → Ex H H' := by
        intro H' m eh hk z
        rcases and_allIm z with z | z
        · exact em.trans (eh z)
        · obtain ⟨f1, hh, kk⟩ := hk
          obtain ⟨f2, f3, e2, h2, h3⟩ := hh
          have e3 := held_ims z h3
          subst e3
          obtain ⟨a, dx', xs, r, ea, e4, h4, _, h5⟩ := h2
          cases ea
          have e5 : r = [] := h5.2
          subst e5
          intro p u hu
          refine kk p u (fun hp => ?_) (em p u hu)
          rw [e2, e4] at hp
          have e6 : p = x := by simpa using hp
          subst e6
          rw [hx] at hu
          cases hu
      have hlv : (V.ref x :: vs).length = n := by rw [List.length_cons, hr.length]; exact hn
      have hlo : (O.ins C [] [] :: os).length = n := by rw [List.length_cons, l1]; exact hn
      cases hf : f (.ins C [] [] :: os) with
      | none => rw [hf] at hr2; cases hr2
      | some fr =>
        rw [hf] at hr2
        refine R2.callee2 hlv hlo hf ?_
        cases fr with
        | ok m os' rv =>
          cases os' with
          | nil => cases hr2
          | cons o os' =>
            cases rv with
            | new o' => cases hr2
            | im d =>
              cases d with
              | non =>
                intro F' H' v ef eh hk R3 hrep
                obtain ⟨e2, hu, e3⟩ := Option.map_eq_some_iff.mp hr2
                subst e3
                refine ⟨hrep, ?_⟩
                have R4 : RE K c F' H' σ e1 (vs.zip os' ++ ((.ref x, o) :: ts)) := R3.perm (by
                  show ((V.ref x, o) :: (vs.zip os' ++ ts)).Perm _
                  exact (List.perm_middle).symm)
                exact post F' H' (.ref x) ef (keep eh hk) (RE.unlend R4 k1 hu)
              | _ => cases hr2
        | err m os' x' =>
          cases os' with
          | nil => cases hr2
          | cons o os' =>
            intro F' H' cls d ef eh hk R3 hxr
            obtain ⟨e2, hu, e3⟩ := Option.map_eq_some_iff.mp hr2
            subst e3
            have R4 : RE K c F' H' σ e1 (vs.zip os' ++ ts) := RE.drop (t := (.ref x, o)) R3
            exact post F' H' cls d ef (keep eh hk) (RE.unlend R4 k1 hu) hxr
  · cases hr2
/-- C(a, ..) -/
theorem de_make {n j : Nat} {ds : Den (List AR)} (M : Mk X.K C f) (Fn : FnOk X.prog X.w X.K X.mg X.base (L2.CX X.prog X.w) k f fd ps (spD X.B n fn)) (tk : Takes X W) (hr : Room (k + 1) X.A) (hg : Gl X x) (hm : X.mg x = some (.ref C)) (hb : Binds X.K fd ps dl) (hd : Vals dvs dl) (hdd : Dfl X.B dd dvs) (hl : j + 1 + dl.length = ps.length) (hn : n = j + 1 + dl.length)
    (ha : DAR X W (a :: es) ds) (hdb : (x == ("__debug__" : Str)) = false := by decide) (he : starEach (a :: es) X.env = (false, eval a X.env) :: starEach es X.env := by rfl) (hpl : (backTo pos (starEach es X.env)).any (·.1) = false := by rfl) :
    DE X W (.Call (.Name x p) (a :: es) [] pos) (dbind ds fun as => dmakeA C n fn (as ++ dd.map AR.im)) := ⟨pe_weak (pe_makeSD M Fn hr hg hm hb hd hl (fun σ => passAt tk σ) ha.run hdb he hpl) fun σ H Q q => by
  obtain ⟨c, F, e, ts, R, q⟩ := q
  refine ⟨c, F, e, ts, R, q.bind (rel := relAR) fun F1 H1 e1 as v ef hr1 q1 => ?_⟩
  have hll : v.length = j := by
    have h1 := hr1.2.length
    obtain ⟨r, hr3, _⟩ := q1
    unfold dmakeA at hr3
    split at hr3
    · rename_i hz
      rw [List.length_append, List.length_map] at hz
      have h2 := (hdd F1).length
      have h3 := hd.length
      omega
    · cases hr3
  exact ⟨hll, rfl, fun y dy hy hdy _ => spD_makeA hr1.1 (hr1.2.append (hdd F1)) q1 y dy hy hdy⟩⟩
/-- C() -/
theorem de_make0 {n : Nat} (M : Mk X.K C f) (Fn : FnOk X.prog X.w X.K X.mg X.base (L2.CX X.prog X.w) k f fd ps (spD X.B n fn)) (tk : Takes X W) (hr : Room (k + 1) X.A) (hg : Gl X x) (hm : X.mg x = some (.ref C)) (hb : Binds X.K fd ps dl) (hd : Vals dvs dl) (hdd : Dfl X.B dd dvs) (hl : 0 + 1 + dl.length = ps.length)
    (hdb : (x == ("__debug__" : Str)) = false := by decide) :
    DE X W (.Call (.Name x p) [] [] pos) (dmakeA C n fn (dd.map AR.im)) := ⟨pe_weak (pe_makeSD0 M Fn hr hg hm hb hd hl (fun σ => passAt tk σ) hdb) fun σ H Q q => by
  obtain ⟨c, F, e, ts, R, q⟩ := q
  exact ⟨rfl, rfl, fun y dy hy hdy _ => spD_makeA (as := dd.map AR.im) R (arel_of (hdd F)) q y dy hy hdy⟩⟩
/-! ### o.m(..) -/
/-- the receiver is an instance of C, not hiding m -/
def isC (C : Addr) (m : Str) (a : AR) : Env → Bool := fun e => match a with
  | .im (.ins C' ns ds) => decide (C' = C) && ((ns.zip ds).lookup m).isNone
  | .bor i => match e[i]? with
    | some (some (_, .ins C' ns os)) => decide (C' = C) && ((ns.zip os).lookup m).isNone
    | _ => false
  | _ => false
def dmeth (C : Addr) (m : Str) (n : Nat) (f : FDen) (da : Den Rv) (ds : Den (List AR)) (dd : List D) : Den Rv := dbind (ar1 da) fun a e => if isC C m a e = true then (dbind ds fun as => dfnA n f (a :: (as ++ dd.map AR.im))) e else none
theorem lookup_none {α β : Type} : ∀ {ns : List Str} {ds : List α} {xs : List β} {m : Str}, ds.length = xs.length → ((ns.zip ds).lookup m).isNone = true → (ns.zip xs).lookup m = none
  | [], ds, xs, m, _, _ => by simp
  | n :: ns, [], xs, m, h, _ => by
    have : xs = [] := List.eq_nil_of_length_eq_zero h.symm
    subst this
    simp
  | n :: ns, d :: ds, [], m, h, _ => by simp at h
  | n :: ns, d :: ds, x :: xs, m, h, e => by
    rw [List.zip_cons_cons, List.lookup_cons] at e ⊢
    cases q : m == n with
    | true => rw [q] at e; cases e
    | false =>
      rw [q] at e
      exact lookup_none (by simpa using h) e
theorem isC_ok {K : KB} {c : Ctx} {F H : Hp} {σ : L2.St} {e : Env} {ts : List (V × O)} {a : AR} {v : V} (h : relA1 K c F H σ e ts a v) (hc : isC C m a e = true) : ∃ p dx fs, v = .ref p ∧ H p = some (.ins C dx fs) ∧ fs.lookup m = none := by
  unfold isC at hc
  split at hc
  · rw [Bool.and_eq_true] at hc
    obtain ⟨h1, h2⟩ := hc
    have e1 := of_decide_eq_true h1
    subst e1
    obtain ⟨p, dx, xs, rfl, h3, h4, h5⟩ := h.2
    exact ⟨p, dx, _, rfl, h.1.fh _ _ h3, lookup_none h5.length h2⟩
  · split at hc
    · rename_i i b C' ns os he
      rw [Bool.and_eq_true] at hc
      obtain ⟨h1, h2⟩ := hc
      have e1 := of_decide_eq_true h1
      subst e1
      obtain ⟨w, fs, hw, p, dx, xs, rr, rfl, _, h3, h4, h5⟩ := h.1.slot he
      have ev := h.2
      dsimp only at ev
      rw [hw] at ev
      cases ev
      exact ⟨p, dx, _, rfl, h3, lookup_none h5.length h2⟩
    · cases hc
  · cases hc
theorem ar_to {K : KB} {F H : Hp} {c : Ctx} {σ : L2.St} {e : Env} {ts : List (V × O)} {a : AR} {v : V} (h : relA1 K c F H σ e ts a v) {as : List AR} {vs : List V} {F' : Hp} (ef : Ex F F') (h2 : ARel K F' σ as vs) : ARel K F' σ (a :: as) (v :: vs) := by
  cases a with
  | im d => exact ⟨v, vs, rfl, Rep.mono ef _ _ h.2, h2⟩
  | bor i => exact ⟨v, vs, rfl, h.2, h2⟩
theorem meth_rd {n : Nat} {da : Den Rv} {ds : Den (List AR)} {o : Expr} (hdd : Dfl X.B dd dvs) {t : TA} (ht : ∀ σ H Q, rd relAR X.B W ds σ H Q → t σ H Q) {σ : L2.St} {H : Hp} {Q : VK} (q : rd relR X.B W (dmeth C m n fn da ds dd) σ H Q) :
    tMethSD C m (spD X.B n fn) dvs (WE W) (rd relR X.B W da) t σ H Q := by
  obtain ⟨c, F, e, ts, R, q⟩ := q
  refine ⟨c, F, e, ts, R, q.ar fun F1 H1 e1 a v ef hr q1 => ?_⟩
  obtain ⟨r, hr2, post⟩ := q1
  dsimp only at hr2
  split at hr2
  · rename_i hc
    obtain ⟨p, dx, fs, rfl, hp, hl⟩ := isC_ok hr hc
    refine ⟨p, dx, fs, rfl, hp, hl, ht _ _ _ ⟨c, F1, e1, ts, hr.1, At.bind (rel := relAR) ⟨r, hr2, post⟩ fun F2 H2 e2 as vs ef2 hr3 q3 => ?_⟩⟩
    exact spD_ofA hr3.1 (ar_to hr ef2 (hr3.2.append (hdd F2))) q3
  · cases hr2
theorem de_meth {n : Nat} {da : Den Rv} {ds : Den (List AR)} {o : Expr} {pl : Sem Bool} (hda : DE X W o da) (cl : Cls X.K C) (hm : Meth X.K C m f) (Fn : FnOk X.prog X.w X.K X.mg X.base (L2.CX X.prog X.w) k f fd ps (spD X.B n fn)) (tk : Takes X W) (hr : Room k X.A) (hb : Binds X.K fd ps dl) (hd : Vals dvs dl) (hdd : Dfl X.B dd dvs)
    (ha : DAR X W (a :: es) ds) (hst : starEach (a :: es) X.env = (false, eval a X.env) :: starEach es X.env := by rfl) (hpl : (backTo pos (starEach es X.env)).any (·.1) = false := by rfl)
    (ht : eval (.Call (.Attribute o m apos) (a :: es) [] pos) X.env = (do
      let ov ← eval o X.env
      standAt apos.atName
      let (f, first) ← holding [ov] (getMethod ov m pl)
      callWith pos f first (backTo pos (starEach (a :: es) X.env)) (backToKw pos (keywordEach [] X.env))) := by rfl) :
    DE X W (.Call (.Attribute o m apos) (a :: es) [] pos) (dmeth C m n fn da ds dd) :=
  ⟨pe_weak (pe_methSD hda.run cl hm Fn hr hb hd (fun σ => passAt tk σ) ha.run hst hpl ht) fun σ H Q q => meth_rd (o := o) hdd (fun _ _ _ z => z) q⟩
theorem de_meth0 {n : Nat} {da : Den Rv} {o : Expr} {pl : Sem Bool} (hda : DE X W o da) (cl : Cls X.K C) (hm : Meth X.K C m f) (Fn : FnOk X.prog X.w X.K X.mg X.base (L2.CX X.prog X.w) k f fd ps (spD X.B n fn)) (tk : Takes X W) (hr : Room k X.A) (hb : Binds X.K fd ps dl) (hd : Vals dvs dl) (hdd : Dfl X.B dd dvs)
    (ht : eval (.Call (.Attribute o m apos) [] [] pos) X.env = (do
      let ov ← eval o X.env
      standAt apos.atName
      let (f, first) ← holding [ov] (getMethod ov m pl)
      callWith pos f first (backTo pos (starEach [] X.env)) (backToKw pos (keywordEach [] X.env))) := by rfl) :
    DE X W (.Call (.Attribute o m apos) [] [] pos) (dmeth C m n fn da (dpure []) dd) :=
  ⟨pe_weak (pe_methSD0 hda.run cl hm Fn hr hb hd (fun σ => passAt tk σ) ht) fun σ H Q q => meth_rd (o := o) hdd (fun σ H Q z => by
    obtain ⟨c, F, e, ts, R, q⟩ := z
    exact At.pure q F H [] (Ex.refl _) (Ex.refl _) ⟨R, rfl⟩) q⟩
end
end DL

/-! DLU: places within what a slot holds. -/
namespace DL
open PySem PySem.Spec PyProof.Rows L2 Evl

/-! ### parts -/
@[simp] def O.kids : O → Option (List O)
  | .im _ => none
  | .lst xs => some xs
  | .tup xs => some xs
  | .dct _ vs => some vs
  | .ins _ _ vs => some vs
@[simp] def O.setKids : O → List O → O
  | .im d, _ => .im d
  | .lst _, xs => .lst xs
  | .tup _, xs => .tup xs
  | .dct ks _, xs => .dct ks xs
  | .ins C ns _, xs => .ins C ns xs
@[simp] def O.get : List Nat → O → Option O
  | [], o => some o
  | n :: p, o => o.kids.bind fun xs => (xs[n]?).bind (O.get p)
@[simp] def O.put : List Nat → O → O → O
  | [], _, x => x
  | n :: p, o, x => match o.kids with
    | some xs => match xs[n]? with
      | some y => o.setKids (xs.set n (O.put p y x))
      | none => o
    | none => o
theorem kids_set {o : O} {xs ys : List O} (h : o.kids = some xs) : (o.setKids ys).kids = some ys := by
  cases o with
  | im d => cases h
  | _ => rfl
theorem setKids_set {o : O} {xs ys : List O} : (o.setKids xs).setKids ys = o.setKids ys := by cases o <;> rfl
theorem get_put : ∀ {p : List Nat} {o x t : O}, O.get p o = some t → O.get p (O.put p o x) = some x
  | [], o, x, t, h => rfl
  | n :: p, o, x, t, h => by
    unfold O.get at h
    obtain ⟨xs, h1, h2⟩ := Option.bind_eq_some_iff.mp h
    obtain ⟨y, h3, h4⟩ := Option.bind_eq_some_iff.mp h2
    have e : O.put (n :: p) o x = o.setKids (xs.set n (O.put p y x)) := by
      rw [O.put, h1]
      dsimp only
      rw [h3]
    rw [e]
    unfold O.get
    rw [kids_set h1]
    show ((xs.set n (O.put p y x))[n]?).bind (O.get p) = some x
    rw [List.getElem?_set_self (List.getElem?_eq_some_iff.mp h3).1]
    exact get_put h4
theorem put_put : ∀ {p : List Nat} {o x z t : O}, O.get p o = some t → O.put p (O.put p o x) z = O.put p o z
  | [], o, x, z, t, h => rfl
  | n :: p, o, x, z, t, h => by
    unfold O.get at h
    obtain ⟨xs, h1, h2⟩ := Option.bind_eq_some_iff.mp h
    obtain ⟨y, h3, h4⟩ := Option.bind_eq_some_iff.mp h2
    have e : ∀ x, O.put (n :: p) o x = o.setKids (xs.set n (O.put p y x)) := fun x => by
      rw [O.put, h1]
      dsimp only
      rw [h3]
    rw [e, e]
    rw [O.put, kids_set h1]
    dsimp only
    rw [List.getElem?_set_self (List.getElem?_eq_some_iff.mp h3).1]
    dsimp only
    rw [setKids_set, List.set_set, put_put h4]

/-! ### parts in the heap -/
def Kids (K : KB) (H : Hp) (a : Addr) (xs : List V) : Prop := ∃ ho, H a = some ho ∧ (ho = .lst xs ∨ ho = .tup xs ∨ (∃ (C dx : Addr) (ns : List Str), ns.length = xs.length ∧ ho = .ins C dx (ns.zip xs)) ∨ (∃ kvs : List (Key × V), ho = .dK kvs ∧ xs = kvs.map (·.2)) ∨ ∃ kvs, ho = dX K a kvs ∧ xs = kvs.map (·.2.2))
theorem zip_snd {α β : Type} : ∀ {ns : List α} {xs : List β}, ns.length = xs.length → (ns.zip xs).map (·.2) = xs
  | [], [], _ => rfl
  | [], _ :: _, h => by simp at h
  | _ :: _, [], h => by simp at h
  | n :: ns, x :: xs, h => by
    rw [List.zip_cons_cons, List.map_cons, zip_snd (by simpa using h)]
theorem Kids.fn {K : KB} {H : Hp} {a : Addr} {xs ys : List V} (h : Kids K H a xs) (h' : Kids K H a ys) : xs = ys := by
  obtain ⟨ho, h1, h2⟩ := h
  obtain ⟨ho', h3, h4⟩ := h'
  rw [h1] at h3
  cases h3
  unfold dX at *
  rcases h2 with rfl | rfl | ⟨C, dx, ns, hl, rfl⟩ | ⟨kvs, rfl, rfl⟩ | ⟨kvs, rfl, rfl⟩
  · rcases h4 with e | e | ⟨_, _, _, _, e⟩ | ⟨_, e, _⟩ | ⟨_, e, _⟩ <;> cases e
    rfl
  · rcases h4 with e | e | ⟨_, _, _, _, e⟩ | ⟨_, e, _⟩ | ⟨_, e, _⟩ <;> cases e
    rfl
  · rcases h4 with e | e | ⟨C', dx', ns', hl', e⟩ | ⟨_, e, _⟩ | ⟨_, e, _⟩
    · cases e
    · cases e
    · have e1 := (HO.ins.inj e).2.2
      rw [← zip_snd hl, e1, zip_snd hl']
    · cases e
    · cases e
  · rcases h4 with e | e | ⟨_, _, _, _, e⟩ | ⟨_, e, e2⟩ | ⟨_, e, _⟩ <;> cases e
    exact e2.symm
  · rcases h4 with e | e | ⟨_, _, _, _, e⟩ | ⟨_, e, _⟩ | ⟨kvs', e, e2⟩
    · cases e
    · cases e
    · cases e
    · cases e
    · rw [e2]
      exact dX_inj e
theorem Kids.mono {K : KB} {H H' : Hp} {a : Addr} {xs : List V} (e : Ex H H') (h : Kids K H a xs) : Kids K H' a xs := by
  obtain ⟨ho, h1, h2⟩ := h
  exact ⟨ho, e _ _ h1, h2⟩
def WalkTo (K : KB) (H : Hp) : V → List Nat → V → Prop
  | v, [], w => v = w
  | v, n :: p, w => ∃ a xs x, v = .ref a ∧ Kids K H a xs ∧ xs[n]? = some x ∧ WalkTo K H x p w
theorem WalkTo.fn {K : KB} {H : Hp} : ∀ {p : List Nat} {v w w' : V}, WalkTo K H v p w → WalkTo K H v p w' → w = w'
  | [], v, w, w', h, h' => h.symm.trans h'
  | n :: p, v, w, w', h, h' => by
    obtain ⟨a, xs, x, rfl, h1, h2, h3⟩ := h
    obtain ⟨a', xs', x', e, h4, h5, h6⟩ := h'
    cases e
    have e1 := h1.fn h4
    subst e1
    rw [h2] at h5
    cases h5
    exact h3.fn h6
theorem WalkTo.mono {K : KB} {H H' : Hp} (e : Ex H H') : ∀ {p : List Nat} {v w : V}, WalkTo K H v p w → WalkTo K H' v p w
  | [], v, w, h => h
  | n :: p, v, w, h => by
    obtain ⟨a, xs, x, rfl, h1, h2, h3⟩ := h
    exact ⟨a, xs, x, rfl, h1.mono e, h2, h3.mono e⟩
theorem WalkTo.snoc {K : KB} {H : Hp} {n : Nat} {a : Addr} {xs : List V} {x : V} : ∀ {p : List Nat} {v : V}, WalkTo K H v p (.ref a) → Kids K H a xs → xs[n]? = some x → WalkTo K H v (p ++ [n]) x
  | [], v, h, hk, hx => ⟨a, xs, x, h, hk, hx, rfl⟩
  | m :: p, v, h, hk, hx => by
    obtain ⟨b, ys, y, rfl, h1, h2, h3⟩ := h
    exact ⟨b, ys, y, rfl, h1, h2, h3.snoc hk hx⟩
/-- what is owned, its parts -/
theorem own_kids {K : KB} {F H : Hp} {o : O} {os : List O} {v : V} {fs : List Addr} (h : Own K F H o v fs) (hk : o.kids = some os) : ∃ a xs r, v = .ref a ∧ fs = a :: r ∧ Kids K H a xs ∧ Owns K F H os xs r ∧
    ∀ os' r', Owns K F H os' xs r' → Own K F H (o.setKids os') v (a :: r') := by
  cases o with
  | im d => cases hk
  | lst xs =>
    cases hk
    obtain ⟨a, ys, r, e1, e2, h1, h2⟩ := h
    exact ⟨a, ys, r, e1, e2, ⟨_, h1, .inl rfl⟩, h2, fun os' r' h' => ⟨a, ys, r', e1, rfl, h1, h'⟩⟩
  | tup xs =>
    cases hk
    obtain ⟨a, ys, r, e1, e2, h1, h2⟩ := h
    exact ⟨a, ys, r, e1, e2, ⟨_, h1, .inr (.inl rfl)⟩, h2, fun os' r' h' => ⟨a, ys, r', e1, rfl, h1, h'⟩⟩
  | dct ks vs =>
    cases hk
    obtain ⟨a, ho, ys, r, e1, e2, h1, h0, h2⟩ := h
    refine ⟨a, ys, r, e1, e2, ⟨_, h1, ?_⟩, h2, fun os' r' h' => ⟨a, ho, ys, r', e1, rfl, h1, h0, h'⟩⟩
    rcases h0 with ⟨kvs, e3, _, _, e4⟩ | ⟨kvs, e3, _, _, e4⟩
    · exact .inr (.inr (.inr (.inl ⟨kvs, e3, e4⟩)))
    · exact .inr (.inr (.inr (.inr ⟨kvs, e3, e4⟩)))
  | ins C ns vs =>
    cases hk
    obtain ⟨a, dx, ys, r, e1, e2, h1, h0, h2⟩ := h
    exact ⟨a, ys, r, e1, e2, ⟨_, h1, .inr (.inr (.inl ⟨C, dx, ns, h0, rfl⟩))⟩, h2, fun os' r' h' => ⟨a, dx, ys, r', e1, rfl, h1, h0, h'⟩⟩
theorem owns_out {K : KB} {F H : Hp} : ∀ {os : List O} {xs : List V} {fs : List Addr} {n : Nat} {o : O}, Owns K F H os xs fs → os[n]? = some o → ∃ x f1 f0 f2, xs[n]? = some x ∧ fs = f1 ++ (f0 ++ f2) ∧ Own K F H o x f0 ∧
    ∀ (o' : O) (f0' : List Addr), Own K F H o' x f0' → Owns K F H (os.set n o') xs (f1 ++ (f0' ++ f2))
  | [], xs, fs, n, o, h, e => by simp at e
  | o0 :: os, xs, fs, 0, o, h, e => by
    have eo : o0 = o := by simpa using e
    subst eo
    obtain ⟨y, r, f1, f2, rfl, rfl, h1, h2⟩ := h
    exact ⟨y, [], f1, f2, rfl, rfl, h1, fun o' f0' ho => ⟨y, r, f0', f2, rfl, rfl, ho, h2⟩⟩
  | o0 :: os, xs, fs, n + 1, o, h, e => by
    obtain ⟨y, r, f1, f2, rfl, rfl, h1, h2⟩ := h
    obtain ⟨x, g1, g0, g2, k1, k2, k3, k4⟩ := owns_out h2 (show os[n]? = some o by simpa using e)
    subst k2
    exact ⟨x, f1 ++ g1, g0, g2, by simpa using k1, by rw [List.append_assoc], k3, fun o' f0' ho => by
      rw [List.append_assoc]
      exact ⟨y, r, f1, g1 ++ (f0' ++ g2), rfl, rfl, h1, k4 o' f0' ho⟩⟩
theorem put_cons {n : Nat} {p : List Nat} {o y x : O} {os : List O} (h1 : o.kids = some os) (h2 : os[n]? = some y) : O.put (n :: p) o x = o.setKids (os.set n (O.put p y x)) := by
  rw [O.put, h1]
  dsimp only
  rw [h2]
/-- a part, taken out; adr a stands where it was -/
theorem own_out {K : KB} {F H : Hp} : ∀ {p : List Nat} {o0 tgt : O} {v : V} {fs : List Addr}, Own K F H o0 v fs → O.get p o0 = some tgt → tgt.kids.isSome = true →
    ∃ a f1 f2, WalkTo K H v p (.ref a) ∧ Own K F H tgt (.ref a) f1 ∧ fs.Perm (f1 ++ f2) ∧ Own K F H (O.put p o0 (.im (.adr a))) v f2
  | [], o0, tgt, v, fs, h, hg, hk => by
    cases hg
    obtain ⟨os, hos⟩ := Option.isSome_iff_exists.mp hk
    obtain ⟨a, xs, r, rfl, _⟩ := own_kids h hos
    exact ⟨a, fs, [], rfl, h, by rw [List.append_nil], ⟨rfl, rfl⟩⟩
  | n :: p, o0, tgt, v, fs, h, hg, hk => by
    unfold O.get at hg
    obtain ⟨os, h1, h2⟩ := Option.bind_eq_some_iff.mp hg
    obtain ⟨y, h3, h4⟩ := Option.bind_eq_some_iff.mp h2
    obtain ⟨b, xs, r, rfl, rfl, hkid, hown, back⟩ := own_kids h h1
    obtain ⟨x, g1, g0, g2, k1, k2, k3, k4⟩ := owns_out hown h3
    obtain ⟨a, f1, f2, w1, w2, w3, w4⟩ := own_out k3 h4 hk
    refine ⟨a, f1, b :: (g1 ++ (f2 ++ g2)), ⟨b, xs, x, rfl, hkid, k1, w1⟩, w2, ?_, ?_⟩
    · rw [k2]
      have e1 : (b :: (g1 ++ (g0 ++ g2))).Perm (b :: (g1 ++ ((f1 ++ f2) ++ g2))) := List.Perm.cons b (List.Perm.append_left g1 (List.Perm.append_right g2 w3))
      refine e1.trans ?_
      have e2 : (g1 ++ ((f1 ++ f2) ++ g2)).Perm (f1 ++ (g1 ++ (f2 ++ g2))) := by
        rw [List.append_assoc, ← List.append_assoc, ← List.append_assoc f1]
        exact List.Perm.append_right _ List.perm_append_comm
      exact (List.Perm.cons b e2).trans List.perm_middle.symm
    · rw [put_cons h1 h3]
      exact back _ _ (k4 _ _ w4)
theorem own_in {K : KB} {F H : Hp} {a : Addr} {o' : O} {f1 : List Addr} (ho : Own K F H o' (.ref a) f1) : ∀ {p : List Nat} {o0 tgt : O} {v : V} {f2 : List Addr}, O.get p o0 = some tgt → Own K F H (O.put p o0 (.im (.adr a))) v f2 →
    ∃ fs, Own K F H (O.put p o0 o') v fs ∧ fs.Perm (f1 ++ f2)
  | [], o0, tgt, v, f2, hg, h => by
    obtain ⟨e1, e2⟩ := h
    rw [show v = .ref a from e2, e1, List.append_nil]
    exact ⟨f1, ho, .refl _⟩
  | n :: p, o0, tgt, v, f2, hg, h => by
    unfold O.get at hg
    obtain ⟨os, h1, h2⟩ := Option.bind_eq_some_iff.mp hg
    obtain ⟨y, h3, h4⟩ := Option.bind_eq_some_iff.mp h2
    rw [put_cons h1 h3] at h
    obtain ⟨b, xs, r, rfl, rfl, hkid, hown, back⟩ := own_kids h (kids_set h1)
    have hn : n < os.length := (List.getElem?_eq_some_iff.mp h3).1
    obtain ⟨x, g1, g0, g2, k1, k2, k3, k4⟩ := owns_out hown (List.getElem?_set_self hn)
    obtain ⟨fs, w1, w2⟩ := own_in ho h4 k3
    refine ⟨b :: (g1 ++ (fs ++ g2)), ?_, ?_⟩
    · rw [put_cons h1 h3]
      have q := back _ _ (k4 _ _ w1)
      rw [setKids_set, List.set_set] at q
      exact q
    · rw [k2]
      have e1 : (b :: (g1 ++ (fs ++ g2))).Perm (b :: (g1 ++ ((f1 ++ g0) ++ g2))) := List.Perm.cons b (List.Perm.append_left g1 (List.Perm.append_right g2 w2))
      refine e1.trans ?_
      have e2 : (g1 ++ ((f1 ++ g0) ++ g2)).Perm (f1 ++ (g1 ++ (g0 ++ g2))) := by
        rw [List.append_assoc, ← List.append_assoc, ← List.append_assoc f1]
        exact List.Perm.append_right _ List.perm_append_comm
      exact (List.Perm.cons b e2).trans List.perm_middle.symm

section
variable {K : KB} {c : Ctx} {F F' H H' : Hp} {σ : L2.St} {e : Env} {ts : List (V × O)}
theorem RE.outP {i : Nat} {b : Bool} {o0 tgt : O} {p : List Nat} (R : RE K c F H σ e ts) (h : e[i]? = some (some (b, o0))) (hg : O.get p o0 = some tgt) (hk : tgt.kids.isSome = true) :
    ∃ v a, σ[i]? = some (some v) ∧ WalkTo K H v p (.ref a) ∧ RE K c F H σ (e.set i (some (b, O.put p o0 (.im (.adr a))))) ((.ref a, tgt) :: ts) := by
  obtain ⟨hs, fs, h1, h2, h3, h4⟩ := R.hd
  obtain ⟨v, A, B, k1, k2, k3, k4⟩ := h1.at i h
  subst k1
  rw [← List.append_assoc] at h2
  obtain ⟨f1, f2, rfl, q1, q2⟩ := h2.split
  obtain ⟨g0, g2, rfl, q3, q4⟩ := q2
  obtain ⟨a, w1, w2, z1, z2, z3, z4⟩ := own_out q3 hg hk
  have pm : (f1 ++ (g0 ++ g2)).Perm (w1 ++ (f1 ++ (w2 ++ g2))) := by
    refine (List.Perm.append_left f1 (List.Perm.append_right g2 z3)).trans ?_
    rw [List.append_assoc, ← List.append_assoc, ← List.append_assoc w1]
    exact List.Perm.append_right _ List.perm_append_comm
  refine ⟨v, a, k2, z1, R.g, R.f0, R.fh, R.nw, _, w1 ++ (f1 ++ (w2 ++ g2)), k4 _, ⟨w1, _, rfl, z2, ?_⟩, pm.nodup_iff.mp h3, fun p hp => h4 p (pm.mem_iff.mpr hp)⟩
  show Held K F H (ts ++ (A ++ (v, O.put p o0 (O.im (D.adr a))) :: B)) (f1 ++ (w2 ++ g2))
  rw [← List.append_assoc]
  exact Held.join q1 ⟨w2, g2, rfl, z4, q4⟩
theorem RE.inP {i : Nat} {b : Bool} {o0 o' tgt : O} {p : List Nat} {a : Addr} (R : RE K c F H σ (e.set i (some (b, O.put p o0 (.im (.adr a))))) ((.ref a, o') :: ts)) (hi : i < e.length) (hg : O.get p o0 = some tgt) :
    RE K c F H σ (e.set i (some (b, O.put p o0 o'))) ts := by
  obtain ⟨hs, fs, h1, h2, h3, h4⟩ := R.hd
  obtain ⟨v, A, B, k1, k2, k3, k4⟩ := h1.at i (List.getElem?_set_self hi)
  subst k1
  obtain ⟨w1, fr, rfl, z2, h2⟩ := h2
  have h2 : Held K F H (ts ++ (A ++ (v, O.put p o0 (O.im (D.adr a))) :: B)) fr := h2
  rw [← List.append_assoc] at h2
  obtain ⟨f1, f2, rfl, q1, q2⟩ := h2.split
  obtain ⟨g0, g2, rfl, q3, q4⟩ := q2
  obtain ⟨f', z3, z4⟩ := own_in z2 hg q3
  have pm : (w1 ++ (f1 ++ (g0 ++ g2))).Perm (f1 ++ (f' ++ g2)) := by
    refine List.Perm.symm ?_
    refine (List.Perm.append_left f1 (List.Perm.append_right g2 z4)).trans ?_
    rw [List.append_assoc, ← List.append_assoc, ← List.append_assoc w1]
    exact List.Perm.append_right _ List.perm_append_comm
  have q := k4 (O.put p o0 o')
  rw [List.set_set] at q
  refine ⟨R.g, R.f0, R.fh, R.nw, _, f1 ++ (f' ++ g2), q, ?_, pm.nodup_iff.mp h3, fun p hp => h4 p (pm.mem_iff.mpr hp)⟩
  rw [← List.append_assoc]
  exact Held.join q1 ⟨f', g2, rfl, z3, q4⟩
end
end DL

/-! DLV: dicts, the machine's side: keys ints and texts, or tuples of these (tracked or written). -/
namespace DL
open PySem PySem.Spec PyProof.Rows L2 Evl

abbrev XK3 := List Key × Addr × V
abbrev PX : List XK3 → List (List Key × Addr × Value) → Prop := Paired fun p q => p.1 = q.1 ∧ p.2.1 = q.2.1 ∧ RelV p.2.2 q.2.2
def valX (kvs : List XK3) (k : List Key) : Option V := (kvs.find? fun p => decide (p.1 = k)).map (·.2.2)
def repX (k : List Key) (v : V) (p : XK3) : XK3 := if p.1 = k then (p.1, p.2.1, v) else p
def putX (kvs : List XK3) (k : List Key) (b : Addr) (v : V) : List XK3 := if (valX kvs k).isSome then kvs.map (repX k v) else kvs ++ [(k, b, v)]
def dropX (kvs : List XK3) (k : List Key) : List XK3 := kvs.filter fun p => decide (p.1 ≠ k)
def hoT (K : KB) (a : Addr) : List XK3 → HO
  | [] => .dK []
  | p :: r => dX K a (p :: r)
/-- at a stands a dict whose keys are tuples -/
def TD (K : KB) (H : Hp) (a : Addr) (kvs : List XK3) : Prop := H a = some (hoT K a kvs) ∧ (kvs ≠ [] → KeysOk K H a kvs)
theorem PX.val {kvs : List XK3} {xs : List (List Key × Addr × Value)} (r : PX kvs xs) (k : List Key) : RelO (valX kvs k) ((atKey xs k).map (·.2)) := by
  induction r with
  | nil => exact True.intro
  | @cons p q ps qs h t ih =>
    obtain ⟨h1, _, h2⟩ := h
    by_cases e : p.1 = k
    · have e' : q.1 = k := h1.symm.trans e
      have a : valX (p :: ps) k = some p.2.2 := by simp [valX, List.find?_cons, e]
      have b : atKey (q :: qs) k = some q.2 := by simp [atKey, List.find?_cons, e']
      rw [a, b]; exact h2
    · have e' : ¬ q.1 = k := fun z => e (h1.trans z)
      have a : valX (p :: ps) k = valX ps k := by simp [valX, List.find?_cons, e]
      have b : atKey (q :: qs) k = atKey qs k := by simp [atKey, List.find?_cons, e']
      rw [a, b]; exact ih
theorem PX.repl {kvs : List XK3} {xs : List (List Key × Addr × Value)} (r : PX kvs xs) (k : List Key) {y : V} {u : Value} (ry : RelV y u) : PX (kvs.map (repX k y)) (xs.map (putAt k u)) := by
  induction r with
  | nil => exact .nil
  | @cons p q ps qs h t ih =>
    rw [List.map_cons, List.map_cons]
    refine .cons ?_ ih
    obtain ⟨h1, h2, h3⟩ := h
    unfold putAt repX
    by_cases e : p.1 = k
    · rw [if_pos e, if_pos (h1.symm.trans e)]; exact ⟨h1, h2, ry⟩
    · rw [if_neg e, if_neg (fun z => e (h1.trans z))]; exact ⟨h1, h2, h3⟩
theorem PX.put {kvs : List XK3} {xs : List (List Key × Addr × Value)} (r : PX kvs xs) (k : List Key) {b : Addr} {y : V} {u : Value} (ry : RelV y u) : PX (putX kvs k b y) (storedH xs k b u) := by
  have e : (valX kvs k).isSome = (atKey xs k).isSome := by rw [(r.val k).isSome_eq, Option.isSome_map]
  unfold putX storedH
  rw [e]
  by_cases q : (atKey xs k).isSome = true
  · rw [if_pos q, if_pos q]; exact r.repl k ry
  · rw [if_neg q, if_neg q]; exact Paired.snoc r ⟨rfl, rfl, ry⟩
theorem PX.drop {kvs : List XK3} {xs : List (List Key × Addr × Value)} (r : PX kvs xs) (k : List Key) : PX (dropX kvs k) (withoutH xs k) := by
  unfold dropX withoutH
  induction r with
  | nil => exact .nil
  | @cons p q ps qs h t ih =>
    obtain ⟨h1, h2⟩ := h
    rw [List.filter_cons, List.filter_cons]
    by_cases e : p.1 = k
    · have a : ¬ decide (p.1 ≠ k) = true := by simp [e]
      have b : ¬ decide (q.1 ≠ k) = true := by simp [h1.symm.trans e]
      rw [if_neg a, if_neg b]; exact ih
    · have e' : ¬ q.1 = k := fun z => e (h1.trans z)
      have a : decide (p.1 ≠ k) = true := by simp [e]
      have b : decide (q.1 ≠ k) = true := by simp [e']
      rw [if_pos a, if_pos b]; exact .cons ⟨h1, h2⟩ ih
theorem PX.keys {kvs : List XK3} {xs : List (List Key × Addr × Value)} (r : PX kvs xs) : kvs.map (·.1) = xs.map (·.1) := by
  induction r with
  | nil => rfl
  | cons h t ih => rw [List.map_cons, List.map_cons, ih, h.1]
theorem repX_keys (k : List Key) (v : V) (kvs : List XK3) : (kvs.map (repX k v)).map (·.1) = kvs.map (·.1) := by
  rw [List.map_map]
  refine List.map_congr_left fun p _ => ?_
  show (repX k v p).1 = p.1
  unfold repX
  split <;> rfl
theorem valX_none {kvs : List XK3} {k : List Key} (h : ¬ (valX kvs k).isSome = true) : k ∉ kvs.map (·.1) := by
  intro hm
  obtain ⟨p, hp, e⟩ := List.mem_map.mp hm
  apply h
  unfold valX
  rw [Option.isSome_map, List.find?_isSome]
  exact ⟨p, hp, by simpa using e⟩
theorem putX_ne (kvs : List XK3) (k : List Key) (b : Addr) (v : V) : putX kvs k b v ≠ [] := by
  unfold putX
  split
  · rename_i h
    intro z
    have e : kvs = [] := List.map_eq_nil_iff.mp z
    subst e
    simp [valX] at h
  · simp
theorem hoT_ne {K : KB} {a : Addr} {kvs : List XK3} (h : kvs ≠ []) : hoT K a kvs = dX K a kvs := by
  cases kvs with
  | nil => exact absurd rfl h
  | cons _ _ => rfl
section
variable {X : Cx} {pins : List (Addr × Obj)} {σ : L2.St} {H : Hp} {s : Shared} {a b : Addr} {y v d : V} {u r : Value} {o : Option V} {A : Around} {E : Value → Shared → Prop} {kvs : List XK3} {k : List Key}
theorem xkey_of (I : Inv X pins σ H s) (e : SqT X.K H b (k.map kV)) : (tupleKind (mixKind X.prog X.w)).is s.heap k b := by
  obtain ⟨its, r, ⟨o, h1, h2, n, h3⟩, _⟩ := I.tuple e
  exact ⟨o, its.toArray, n, h1, h2, h3, by simpa using items_are r⟩
theorem td_of (I : Inv X pins σ H s) (h : TD X.B H a kvs) : kvs.length ≤ sizeLine ∧ (a == sysModules) = false ∧ ∃ xs, PX kvs xs ∧ s.heap.DictOfH (tupleKind (mixKind X.prog X.w)) a xs := by
  obtain ⟨h1, h2⟩ := h
  cases kvs with
  | nil =>
    obtain ⟨z, hd, vs, rel, o, es, ep, g1, g2, g3, g4, g5, g6⟩ := dk_of I.hok h1
    cases rel
    refine ⟨Nat.zero_le _, hd, [], .nil, o, es, ep, g1, g2, g3, ?_, fun x hx => (by cases hx), List.nodup_nil⟩
    generalize es.toList = l at g5
    cases g5
    rfl
  | cons p r =>
    have ko := h2 (by simp)
    obtain ⟨⟨xs, hp, o, es, ep, g1, g2, g3, g4⟩, _⟩ := (show ObjOk X.prog X.w H s.heap a (dX X.B a (p :: r)) from I.hok a _ h1)
    refine ⟨ko.len, ko.sys, xs, hp, o, es, ep, g1, g2, g3, g4, fun x hx => ?_, ?_⟩
    · have all : ∀ {l : List XK3} {m : List (List Key × Addr × Value)}, PX l m → (∀ p ∈ l, SqT X.K H p.2.1 (p.1.map kV)) → ∀ x ∈ m, (tupleKind (mixKind X.prog X.w)).is s.heap x.1 x.2.1 := by
        intro l m q
        induction q with
        | nil => intro _ x hx; exact nomatch hx
        | @cons p q ps qs hq t ih =>
          intro hl x hx
          rcases List.mem_cons.mp hx with e | hx
          · subst e
            rw [← hq.1, ← hq.2.1]
            exact xkey_of I (hl p List.mem_cons_self)
          · exact ih (fun p hp => hl p (List.mem_cons_of_mem _ hp)) x hx
      exact all hp ko.at_ x hx
    · rw [← PX.keys hp]
      exact ko.nd
/-- what the dict at a holds at the key y -/
def XGet (K : KB) (H : Hp) (a : Addr) (y : V) (r : Option V) : Prop :=
  (∃ kvs k, H a = some (.dK kvs) ∧ y = kV k ∧ r = valV kvs k) ∨ ∃ kvs k b, TD K H a kvs ∧ y = .ref b ∧ SqT K H b (k.map kV) ∧ r = valX kvs k
def XPut (K : KB) (H : Hp) (a : Addr) (y v : V) (H' : Hp) : Prop :=
  (∃ kvs k, H a = some (.dK kvs) ∧ y = kV k ∧ kvs.length < sizeLine ∧ H' = upd H a (.dK (putK kvs k v))) ∨
  ∃ kvs k b, TD K H a kvs ∧ y = .ref b ∧ SqT K H b (k.map kV) ∧ kvs.length < sizeLine ∧ H' = upd H a (dX K a (putX kvs k b v))
def XDel (K : KB) (H : Hp) (a : Addr) (y v : V) (H' : Hp) : Prop :=
  (∃ kvs k, H a = some (.dK kvs) ∧ y = kV k ∧ valV kvs k = some v ∧ H' = upd H a (.dK (dropK kvs k))) ∨
  ∃ kvs k b, TD K H a kvs ∧ y = .ref b ∧ SqT K H b (k.map kV) ∧ valX kvs k = some v ∧ H' = upd H a (hoT K a (dropX kvs k))
theorem x_getItem {Q : Value → Shared → Prop} (hu : A.units + 1 < cLine) (I : Inv X pins σ H s) (g : XGet X.B H a y (some v)) (ry : RelV y u) (h : ∀ w' s', Inv X pins σ H s' → RelV v w' → Q w' s') :
    wpAny (model X.prog X.w) A (getItem (.ref a) u) Q E s := by
  rcases g with ⟨kvs, k, e, ey, l⟩ | ⟨kvs, k, b, e, ey, eb, l⟩
  · exact d_getItem hu I (.inl ⟨kvs, k, .inl e, ey, l⟩) ry h
  · subst ey
    cases (show u = Value.ref b from ry)
    obtain ⟨z, hd, xs, rel, dd⟩ := td_of I e
    obtain ⟨w', hw, rw'⟩ := RelO.some_of (v := v) (o := (atKey xs k).map (·.2)) (by rw [l]; exact rel.val k)
    obtain ⟨p, hp, hp2⟩ := Option.map_eq_some_iff.mp hw
    refine wpAny_getItem_heap (tupleKind_room_in1 hu) (xkey_of I eb) dd hp ?_
    rw [hp2]
    exact h w' _ (I.tok _) rw'
theorem x_in {Q : Value → Shared → Prop} (hu : A.units + 1 < cLine) (I : Inv X pins σ H s) (g : XGet X.B H a y o) (ry : RelV y u) (h : ∀ s', Inv X pins σ H s' → Q (.bool o.isSome) s') :
    wpAny (model X.prog X.w) A (compareOp .In u (.ref a)) Q E s := by
  rcases g with ⟨kvs, k, e, ey, l⟩ | ⟨kvs, k, b, e, ey, eb, l⟩
  · exact d_in hu I (.inl ⟨kvs, k, .inl e, ey, l⟩) ry h
  · subst ey
    cases (show u = Value.ref b from ry)
    obtain ⟨z, hd, xs, rel, dd⟩ := td_of I e
    refine wpAny_in_heap (tupleKind_room_in1 hu) (xkey_of I eb) hd dd ?_
    have q := (rel.val k).isSome_eq
    rw [Option.isSome_map] at q
    rw [← q, ← l]
    exact h _ (I.tok _)
theorem x_notIn {Q : Value → Shared → Prop} (hu : A.units + 1 < cLine) (I : Inv X pins σ H s) (g : XGet X.B H a y o) (ry : RelV y u) (h : ∀ s', Inv X pins σ H s' → Q (.bool (!o.isSome)) s') :
    wpAny (model X.prog X.w) A (compareOp .NotIn u (.ref a)) Q E s := by
  rcases g with ⟨kvs, k, e, ey, l⟩ | ⟨kvs, k, b, e, ey, eb, l⟩
  · exact d_notIn hu I (.inl ⟨kvs, k, .inl e, ey, l⟩) ry h
  · subst ey
    cases (show u = Value.ref b from ry)
    obtain ⟨z, hd, xs, rel, dd⟩ := td_of I e
    refine wpAny_notIn_heap (tupleKind_room_in1 hu) (xkey_of I eb) hd dd ?_
    have q := (rel.val k).isSome_eq
    rw [Option.isSome_map] at q
    rw [← q, ← l]
    exact h _ (I.tok _)
theorem mut_td (h : TD X.B H a kvs) : Mut (H a) := by
  rw [h.1]
  cases kvs <;> exact True.intro
/-- the dict's own object, written -/
theorem td_new {H' : Hp} {h' : Heap} {xs : List (List Key × Addr × Value)} (hl : kvs.length ≤ sizeLine) (hd : (a == sysModules) = false) (rel : PX kvs xs) (dd : h'.DictOfH (tupleKind (mixKind X.prog X.w)) a xs) : ObjOk X.prog X.w H' h' a (hoT X.B a kvs) := by
  obtain ⟨q, es, ep, hq, h2, h3, h4, h6, h5⟩ := dd
  cases kvs with
  | nil =>
    cases rel
    have e0 : es.toList = [] := h4
    refine ⟨Nat.zero_le _, hd, [], .nil, q, es, ep, hq, h2, h3, fun e he => ?_, ?_, List.nodup_nil⟩
    · have : e ∈ es.toList := by simpa using he
      rw [e0] at this
      cases this
    · rw [e0]
      exact .nil
  | cons p r =>
    refine ⟨⟨xs, rel, q, es, ep, hq, h2, h3, h4⟩, ⟨q, hq⟩, ?_⟩
    rintro h1 h2 ⟨xs, rel, q, es, ep, g1, g2⟩ k
    exact ⟨xs, rel, q, es, ep, k q g1, g2⟩
theorem x_setItem {H' : Hp} {Q : Unit → Shared → Prop} (hu : A.units + 1 < cLine) (I : Inv X pins σ H s) (g : XPut X.B H a y v H') (ry : RelV y u) (rv : RelV v r) (h : ∀ s', Inv X pins σ H' s' → Q () s') :
    wpAny (model X.prog X.w) A (setItem (.ref a) u r) Q E s := by
  rcases g with ⟨kvs, k, e, ey, l, eH⟩ | ⟨kvs, k, b, e, ey, eb, l, eH⟩
  · exact d_setItem hu I (.inl ⟨kvs, k, e, ey, l, eH⟩) ry rv h
  · subst ey eH
    cases (show u = Value.ref b from ry)
    obtain ⟨z, hd, xs, rel, dd⟩ := td_of I e
    have hz : xs.length ≤ sizeLine := by rw [← Paired.length rel]; exact z
    have hl : (putX kvs k b v).length ≤ sizeLine := by
      unfold putX
      split
      · rw [List.length_map]; exact z
      · rw [List.length_append]; exact l
    refine wpAny_setItem_heap (hsz := hz) (tupleKind_room_in1 hu) (xkey_of I eb) dd fun h' dd' hs => h _ ?_
    have he : ∃ q, h'.get? a = some q := let ⟨q, _, _, hq, _⟩ := dd'; ⟨q, hq⟩
    have nw := td_new (X := X) (H' := upd H a (hoT X.B a (putX kvs k b v))) hl hd (rel.put k rv) dd'
    rw [hoT_ne (putX_ne _ _ _ _)] at nw
    exact d_write I (mut_td e) hs he nw
theorem dropX_len (kvs : List XK3) (k : List Key) : (dropX kvs k).length ≤ kvs.length := List.length_filter_le _ _
theorem x_delItem {H' : Hp} {Q : Unit → Shared → Prop} (hu : A.units + 1 < cLine) (I : Inv X pins σ H s) (g : XDel X.B H a y v H') (ry : RelV y u) (h : ∀ s', Inv X pins σ H' s' → Q () s') :
    wpAny (model X.prog X.w) A (delItem (.ref a) u) Q E s := by
  rcases g with ⟨kvs, k, e, ey, l, eH⟩ | ⟨kvs, k, b, e, ey, eb, l, eH⟩
  · subst ey eH
    exact d_delItem I e ry (by rw [l]; rfl) h
  · subst ey eH
    cases (show u = Value.ref b from ry)
    obtain ⟨z, hd, xs, rel, dd⟩ := td_of I e
    have hz : xs.length ≤ sizeLine := by rw [← Paired.length rel]; exact z
    obtain ⟨w', hw, rw'⟩ := RelO.some_of (v := v) (o := (atKey xs k).map (·.2)) (by rw [← l]; exact rel.val k)
    obtain ⟨p, hp, hp2⟩ := Option.map_eq_some_iff.mp hw
    refine wpAny_delItem_heap (hsz := hz) (tupleKind_room_in1 hu) (xkey_of I eb) hd dd hp fun h' dd' hs => h _ ?_
    have he : ∃ q, h'.get? a = some q := let ⟨q, _, _, hq, _⟩ := dd'; ⟨q, hq⟩
    exact d_write I (mut_td e) hs he (td_new (Nat.le_trans (dropX_len kvs k) z) hd (rel.drop k) dd')
theorem x_pop {H' : Hp} {more : List Value} {Q : Value → Shared → Prop} (hu : A.units + 1 < cLine) (hm : more = [] ∨ ∃ x, more = [x]) (I : Inv X pins σ H s) (g : XDel X.B H a y v H') (ry : RelV y u) (h : ∀ w' s', Inv X pins σ H' s' → RelV v w' → Q w' s') :
    wpAny (model X.prog X.w) A (call (.builtin "dict.pop") (.ref a :: u :: more)) Q E s := by
  rcases g with ⟨kvs, k, e, ey, l, eH⟩ | ⟨kvs, k, b, e, ey, eb, l, eH⟩
  · subst ey eH
    exact d_pop I e ry l hm h
  · subst ey eH
    cases (show u = Value.ref b from ry)
    obtain ⟨z, hd, xs, rel, dd⟩ := td_of I e
    have hz : xs.length ≤ sizeLine := by rw [← Paired.length rel]; exact z
    obtain ⟨w', hw, rw'⟩ := RelO.some_of (v := v) (o := (atKey xs k).map (·.2)) (by rw [← l]; exact rel.val k)
    obtain ⟨p, hp, hp2⟩ := Option.map_eq_some_iff.mp hw
    have ha : argsOk "dict.pop" ⟨.ref a :: .ref b :: more, []⟩ := by
      rcases hm with q | ⟨x, q⟩
      · subst q; exact PySem.F.args_dict_pop_2 _ _
      · subst q; exact PySem.F.args_dict_pop_3 _ _ _
    refine call_pop_heap (hsz := hz) hm ha (tupleKind_room_in1 hu) (xkey_of I eb) hd dd hp fun h' dd' hs => ?_
    rw [hp2]
    have he : ∃ q, h'.get? a = some q := let ⟨q, _, _, hq, _⟩ := dd'; ⟨q, hq⟩
    exact h w' _ (d_write I (mut_td e) hs he (td_new (Nat.le_trans (dropX_len kvs k) z) hd (rel.drop k) dd')) rw'
theorem x_get1 {Q : Value → Shared → Prop} (hu : A.units + 1 < cLine) (I : Inv X pins σ H s) (g : XGet X.B H a y o) (ry : RelV y u) (h : ∀ w' s', Inv X pins σ H s' → RelV (o.getD .non) w' → Q w' s') :
    wpAny (model X.prog X.w) A (call (.builtin "dict.get") [.ref a, u]) Q E s := by
  rcases g with ⟨kvs, k, e, ey, l⟩ | ⟨kvs, k, b, e, ey, eb, l⟩
  · exact d_get1 hu I (.inl ⟨kvs, k, .inl e, ey, l⟩) ry h
  · subst ey
    cases (show u = Value.ref b from ry)
    obtain ⟨z, hd, xs, rel, dd⟩ := td_of I e
    refine call_meetsIn PySem.F.slot_dict_get dd.typeIs PySem.F.entry_dict_get (PySem.F.args_dict_get_2 _ _) (meetsH_dict_get (tupleKind (mixKind X.prog X.w)) a b hd) ⟨tupleKind_room_in1 hu, k, xs, xkey_of I eb, dd, h _ _ (I.tok _) ?_⟩
    rw [l]
    exact (rel.val k).getD rfl
theorem x_get2 {Q : Value → Shared → Prop} (hu : A.units + 1 < cLine) (I : Inv X pins σ H s) (g : XGet X.B H a y o) (ry : RelV y u) (rd : RelV d r) (h : ∀ w' s', Inv X pins σ H s' → RelV (o.getD d) w' → Q w' s') :
    wpAny (model X.prog X.w) A (call (.builtin "dict.get") [.ref a, u, r]) Q E s := by
  rcases g with ⟨kvs, k, e, ey, l⟩ | ⟨kvs, k, b, e, ey, eb, l⟩
  · exact d_get2 hu I (.inl ⟨kvs, k, .inl e, ey, l⟩) ry rd h
  · subst ey
    cases (show u = Value.ref b from ry)
    obtain ⟨z, hd, xs, rel, dd⟩ := td_of I e
    refine call_meetsIn PySem.F.slot_dict_get dd.typeIs PySem.F.entry_dict_get (PySem.F.args_dict_get_3 _ _ _) (meetsH_dict_get_default (tupleKind (mixKind X.prog X.w)) a b hd r) ⟨tupleKind_room_in1 hu, k, xs, xkey_of I eb, dd, h _ _ (I.tok _) ?_⟩
    rw [l]
    exact (rel.val k).getD rd
end
/-- any dict -/
def IsX (K : KB) (H : Hp) (a : Addr) : Prop := (∃ kvs, H a = some (.dK kvs)) ∨ ∃ kvs, H a = some (dX K a kvs)
section
variable {X : Cx} {pins : List (Addr × Obj)} {σ : L2.St} {H : Hp} {s : Shared} {a b : Addr}
theorem isX_obj (I : Inv X pins σ H s) (d : IsX X.B H a) : ∃ o, s.heap.get? a = some o ∧ o.ExactDict := by
  rcases d with ⟨kvs, e⟩ | ⟨kvs, e⟩
  · obtain ⟨_, hd, vs, _, ob, _, _, h1, h2, _⟩ := dk_of I.hok e
    exact ⟨ob, h1, h2⟩
  · obtain ⟨⟨xs, hp, o, es, ep, g1, g2, g3, g4⟩, _⟩ := (show ObjOk X.prog X.w H s.heap a (dX X.B a kvs) from I.hok a _ e)
    exact ⟨o, g1, g2⟩
theorem XGet.isX {y : V} {o : Option V} (g : XGet X.B H a y o) : IsX X.B H a := by
  rcases g with ⟨kvs, k, e, _⟩ | ⟨kvs, k, b, e, _⟩
  · exact .inl ⟨kvs, e⟩
  · cases kvs with
    | nil => exact .inl ⟨[], e.1⟩
    | cons p r => exact .inr ⟨p :: r, e.1⟩
end
/-! ### rules -/
def rXIx (K : KB) : R2 := fun x y H Q => ∃ a v, x = .ref a ∧ XGet K H a y (some v) ∧ Q v H
def rXIn (K : KB) (neg : Bool) : R2 := fun y x H Q => ∃ a o, x = .ref a ∧ XGet K H a y o ∧ Q (.bl (if neg then !o.isSome else o.isSome)) H
def rXSet (K : KB) : TSet := fun x y v H Q => ∃ a H', x = .ref a ∧ XPut K H a y v H' ∧ Q H'
section
variable {X : Cx}
theorem subT {prog : Program} {w : World} {A : Around} {E : Value → Shared → Prop} {s₂ : Shared} {value slice : Expr} {o i : Value} {T id : String} {Q : Value → Shared → Prop} (hT : s₂.TypeIs o T)
    (hl : typeLookup (.type T) "__getitem__" = pure (some (.builtin id))) (hs : subscripted slice false o i = operate [o, i] (getItem o i)) (h₂ : wpAny (model prog w) A (getItem o i) Q E s₂) : wpAny (model prog w) A (subscriptTail value slice o i) Q E s₂ := by
  unfold subscriptTail
  refine wpAny_bind ?_
  rw [getitemInPython_of_ne hT.not_modules]
  refine wpAny_bind (wpAny_specialOf hT hl ?_)
  have fin : wpAny (model prog w) A (subscripted slice false o i) (fun r s₃ => wpAny (model prog w) A (letTemporaryGo value o r >>= fun _ => pure r) Q E s₃) E s₂ := by
    rw [hs]
    exact wpAny_operating (wpAny_mono h₂ (fun r s₃ h₃ => wpAny_bind (wpAny_letTemporaryGo (wpAny_pure h₃))) fun _ _ x => x)
  first
    | exact wpAny_pure (wpAny_bind fin)
    | exact wpAny_bind (wpAny_pure (wpAny_bind fin))
    | exact wpAny_bind fin
theorem ix_dict (hu : X.A.units + 1 < cLine) : IxR X (rXIx X.B) := by
  intro value slice pins s σ H x y v u Q I rx ry h hs
  obtain ⟨a, z, rfl, g, q⟩ := h
  cases rx
  obtain ⟨o, g1, g2⟩ := isX_obj I g.isX
  have hT : s.TypeIs (.ref a) "dict" := ⟨o, g1, g2.1⟩
  exact subT hT PySem.F.slot_dict_getitem.lookup hs (x_getItem hu I g ry fun w' s' I' rw' => ⟨z, H, I', rw', q⟩)
theorem op_inX (hu : X.A.units + 1 < cLine) : OpR X (compareOp .In) (rXIn X.B false) := by
  intro pins s σ H x y v u Q I rx ry h
  obtain ⟨a, o, rfl, g, q⟩ := h
  cases ry
  exact x_in hu I g rx fun s' I' => ⟨.bl _, H, I', rfl, q⟩
theorem op_notinX (hu : X.A.units + 1 < cLine) : OpR X (compareOp .NotIn) (rXIn X.B true) := by
  intro pins s σ H x y v u Q I rx ry h
  obtain ⟨a, o, rfl, g, q⟩ := h
  cases ry
  exact x_notIn hu I g rx fun s' I' => ⟨.bl _, H, I', rfl, q⟩
theorem set_dictX (hu : X.A.units + 1 < cLine) : PSet X (rXSet X.B) := by
  intro pins s σ H o i v ov iv u Q I ro ri rv h
  obtain ⟨a, H', rfl, g, q⟩ := h
  cases ro
  exact x_setItem hu I g ri rv fun s' I' => ⟨H', I', q⟩
/-- del d[k] -/
def sXDel (K : KB) (td ty : TE) : TS := fun D σ H => td σ H fun x H1 => ty σ H1 fun y H2 => ∃ a v H3, x = .ref a ∧ XDel K H2 a y v H3 ∧ D.nx σ H3
theorem ps_xdel {o i : Expr} {tpos pos : Pos} {td ty : TE} (hu : X.A.units + 1 < cLine) (ho : PE X o td) (hi : PE X i ty) : PS X (.Delete [.Subscript o i tpos] pos) (sXDel X.B td ty) := by
  refine ⟨fun pins s σ H D I h => ?_⟩
  refine wpAny_Delete (wpAny_deleteEach_cons (wpAny_delete_Subscript (thn (ho.run pins s σ H _ I h) fun u s1 ⟨x, H1, I1, rx, q1⟩ => thn (hi.run pins s1 σ H1 _ I1 q1) fun iv s2 ⟨y, H2, I2, ry, a, v, H3, ex, e, q2⟩ => ?_)))
  subst ex
  obtain rfl : u = Value.ref a := rx
  exact x_delItem hu I2 e ry fun s3 I3 => wpAny_deleteEach_nil ⟨σ, _, I3, q2⟩
/-- methods of a dict -/
def tXM (K : KB) (r : V → List V → Hp → VK → Prop) (to : TE) (t : TA) : TE := fun σ H Q => to σ H fun x H1 => (∃ a, x = .ref a ∧ IsX K H1 a) ∧ t σ H1 fun xs H2 => r x xs H2 Q
theorem pe_xm {o e : Expr} {es : List Expr} {to : TE} {t : TA} {name : Str} {apos cpos : Pos} {id : String} {r : V → List V → Hp → VK → Prop} (slot : PySem.Slot "dict" name id) (hty : typeOf (.builtin id) = pure (.type "method_descriptor")) (hm : MtR X id r) (ho : PE X o to) (ha : PA X (e :: es) t)
    (hbase : attributeBase o name X.env (eval o X.env) = eval o X.env := by rfl)
    (hfew : ((backTo cpos (starEach (e :: es) X.env)).all (fun x => !x.1) && (backToKw cpos (keywordEach [] X.env)).all (fun x => x.1.isSome)
      && decide ((e :: es).length + ([] : List Keyword).length + (if ([] : List Keyword).isEmpty then 0 else 1) < 30)) = true := by rfl)
    (hline : (apos.endLine == cpos.line) = true := by rfl) (hs : starEach (e :: es) X.env = (false, eval e X.env) :: starEach es X.env := by rfl) (hplain : (backTo cpos (starEach es X.env)).any (·.1) = false := by rfl) :
    PE X (.Call (.Attribute o name apos) (e :: es) [] cpos) (tXM X.B r to t) := by
  refine ⟨fun pins s σ H Q I h => ?_⟩
  refine wpAny_Call_method_late hbase hfew hline rfl (thn (ho.run pins s σ H _ I h) fun v s1 ⟨x, H1, I1, r1, ⟨a, ex, ty⟩, q1⟩ => ?_)
  subst ex
  cases r1
  obtain ⟨ob, g1, g2⟩ := isX_obj I1 ty
  refine ⟨"dict", id, PySem.F.plainAttrs_dict, slot, hty, ⟨ob, g1, g2.1⟩, fun b hb => by cases hb; exact ⟨ob, g1, g2.2.1⟩, ?_⟩
  have hA := ha.run cpos pins s1 σ H1 _ I1 q1
  rw [hs] at hA ⊢
  refine Calls.callWith_builtin (by show (false || (backTo cpos (starEach es X.env)).any (·.1)) = false; rw [hplain] <;> rfl) (Calls.evalArgs_plain ?_)
  exact thn hA fun us s2 ⟨vs, H2, I2, r2, q2⟩ => hm pins s2 σ H2 (.ref a) vs (.ref a) us Q I2 rfl r2 q2
def rXGet (K : KB) : V → List V → Hp → VK → Prop := fun x xs H Q => ∃ a o, x = .ref a ∧ ((∃ y, xs = [y] ∧ XGet K H a y o ∧ Q (o.getD .non) H) ∨ ∃ y d, xs = [y, d] ∧ XGet K H a y o ∧ Q (o.getD d) H)
theorem mt_getX (hu : X.A.units + 1 < cLine) : MtR X "dict.get" (rXGet X.B) := by
  intro pins s σ H x xs v us Q I rx r h
  obtain ⟨a, o, rfl, h⟩ := h
  cases rx
  rcases h with ⟨y, rfl, g, q⟩ | ⟨y, d, rfl, g, q⟩
  · obtain ⟨u, rfl, ru⟩ := vals1 r
    exact x_get1 hu I g ru fun w' s' I' rw' => ⟨_, H, I', rw', q⟩
  · obtain ⟨u, w, rfl, ru, rw⟩ := vals2 r
    exact x_get2 hu I g ru rw fun w' s' I' rw' => ⟨_, H, I', rw', q⟩
def rXPop (K : KB) : V → List V → Hp → VK → Prop := fun x xs H Q => ∃ a v H', x = .ref a ∧ ((∃ y, xs = [y] ∧ XDel K H a y v H' ∧ Q v H') ∨ ∃ y d, xs = [y, d] ∧ XDel K H a y v H' ∧ Q v H')
theorem mt_popX (hu : X.A.units + 1 < cLine) : MtR X "dict.pop" (rXPop X.B) := by
  intro pins s σ H x xs v us Q I rx r h
  obtain ⟨a, z, H', rfl, h⟩ := h
  cases rx
  rcases h with ⟨y, rfl, g, q⟩ | ⟨y, d, rfl, g, q⟩
  · obtain ⟨u, rfl, ru⟩ := vals1 r
    exact x_pop hu (.inl rfl) I g ru fun w' s' I' rw' => ⟨_, H', I', rw', q⟩
  · obtain ⟨u, w, rfl, ru, rw⟩ := vals2 r
    exact x_pop hu (.inr ⟨_, rfl⟩) I g ru fun w' s' I' rw' => ⟨_, H', I', rw', q⟩
end
end DL

/-! DLW: dicts as data. -/
namespace DL
open PySem PySem.Spec PyProof.Rows L2 Evl

/-! ### keys -/
def kyD : D → Option Key
  | .int i => some (.inl i)
  | .str x => some (.inr x)
  | _ => none
def kyDs : List D → Option (List Key)
  | [] => some []
  | d :: ds => match kyD d, kyDs ds with
    | some k, some ks => some (k :: ks)
    | _, _ => none
def kyOf : D → Option (Key ⊕ List Key)
  | .int i => some (.inl (.inl i))
  | .str x => some (.inl (.inr x))
  | .tup ds => (kyDs ds).map .inr
  | _ => none
def kix (ks : List D) (k : D) : Option Nat := ks.findIdx? fun d => decide (kyOf d = kyOf k)
def okKey (ks : List D) (k : D) : Bool := match kyOf k, ks with
  | none, _ => false
  | some _, [] => true
  | some (.inl _), .int _ :: _ => true
  | some (.inl _), .str _ :: _ => true
  | some (.inr _), .tup _ :: _ => true
  | _, _ => false
theorem kyDs_map : ∀ k : List Key, kyDs (k.map kD) = some k
  | [] => rfl
  | .inl i :: k => by
    show (match kyD (.int i), kyDs (k.map kD) with | some k, some ks => some (k :: ks) | _, _ => none) = _
    rw [kyDs_map k]
    rfl
  | .inr i :: k => by
    show (match kyD (.str i), kyDs (k.map kD) with | some k, some ks => some (k :: ks) | _, _ => none) = _
    rw [kyDs_map k]
    rfl
theorem kyD_inv {d : D} {k : Key} (h : kyD d = some k) : d = kD k := by
  cases d <;> cases h <;> rfl
theorem kyDs_inv : ∀ {ds : List D} {k : List Key}, kyDs ds = some k → ds = k.map kD
  | [], k, h => by cases h; rfl
  | d :: ds, k, h => by
    unfold kyDs at h
    cases h1 : kyD d with
    | none => rw [h1] at h; cases h
    | some a =>
      cases h2 : kyDs ds with
      | none => rw [h1, h2] at h; cases h
      | some as =>
        rw [h1, h2] at h
        cases h
        rw [List.map_cons, ← kyDs_inv h2, kyD_inv h1]
theorem kyOf_kD (k : Key) : kyOf (kD k) = some (.inl k) := by cases k <;> rfl
theorem kyOf_tup (k : List Key) : kyOf (.tup (k.map kD)) = some (.inr k) := by
  show (kyDs (k.map kD)).map Sum.inr = _
  rw [kyDs_map]
  rfl
theorem kyOf_inl {d : D} {k : Key} (h : kyOf d = some (.inl k)) : d = kD k := by
  cases d with
  | int i => cases h; rfl
  | str i => cases h; rfl
  | tup ds =>
    obtain ⟨z, _, e⟩ := Option.map_eq_some_iff.mp (show (kyDs ds).map Sum.inr = _ from h)
    cases e
  | _ => cases h
theorem kyOf_inr {d : D} {k : List Key} (h : kyOf d = some (.inr k)) : d = .tup (k.map kD) := by
  cases d with
  | tup ds =>
    obtain ⟨z, h1, e⟩ := Option.map_eq_some_iff.mp (show (kyDs ds).map Sum.inr = _ from h)
    cases e
    rw [← kyDs_inv h1]
  | int i => cases h
  | str i => cases h
  | _ => cases h
theorem rep_kD {K : KB} {F : Hp} {k : Key} {v : V} (h : Rep K F (kD k) v) : v = kV k := by cases k <;> exact h
theorem reps_kD {K : KB} {F : Hp} : ∀ {k : List Key} {vs : List V}, Reps K F (k.map kD) vs → vs = k.map kV
  | [], vs, h => h
  | k :: ks, vs, h => by
    obtain ⟨x, r, rfl, h1, h2⟩ := h
    rw [rep_kD h1, reps_kD h2]
    rfl
theorem rep_tupk {K : KB} {F : Hp} {k : List Key} {v : V} (h : Rep K F (.tup (k.map kD)) v) : ∃ b, v = .ref b ∧ SqT K F b (k.map kV) := by
  obtain ⟨a, xs, rfl, h1, h2⟩ := h
  rw [reps_kD h2] at h1
  exact ⟨a, rfl, h1⟩
/-! ### lists of pairs -/
section
variable {κ β : Type} [DecidableEq κ]
theorem find_ix (l : List (κ × β)) (k : κ) : (l.find? fun p => decide (p.1 = k)).map (·.2) = (l.findIdx? fun p => decide (p.1 = k)).bind fun n => (l.map (·.2))[n]? := by
  induction l with
  | nil => rfl
  | cons p l ih =>
    rw [List.find?_cons, List.findIdx?_cons]
    by_cases e : p.1 = k
    · rw [decide_eq_true e]
      rfl
    · rw [decide_eq_false e]
      rw [ih]
      cases (l.findIdx? fun p => decide (p.1 = k)) <;> rfl
theorem modify_of {l : List (κ × β)} {k : κ} {n : Nat} (nd : (l.map (·.1)).Nodup) (h : (l.findIdx? fun p => decide (p.1 = k)) = some n) (f : κ × β → κ × β) : (l.map fun p => if p.1 = k then f p else p) = l.modify n f := by
  induction l generalizing n with
  | nil => cases h
  | cons p l ih =>
    rw [List.findIdx?_cons] at h
    rw [List.map_cons, List.nodup_cons] at nd
    rw [List.map_cons]
    by_cases e : p.1 = k
    · rw [decide_eq_true e] at h
      cases h
      rw [if_pos e]
      have : (l.map fun p => if p.1 = k then f p else p) = l := by
        conv => rhs; rw [← List.map_id l]
        refine List.map_congr_left fun q hq => ?_
        rw [if_neg]
        · rfl
        · intro z
          exact nd.1 (List.mem_map.mpr ⟨q, hq, z.trans e.symm⟩)
      rw [this]
      rfl
    · rw [decide_eq_false e] at h
      cases h2 : (l.findIdx? fun p => decide (p.1 = k)) with
      | none => rw [h2] at h; cases h
      | some m =>
        rw [h2] at h
        cases h
        rw [if_neg e, ih nd.2 h2]
        rfl
theorem erase_of {l : List (κ × β)} {k : κ} {n : Nat} (nd : (l.map (·.1)).Nodup) (h : (l.findIdx? fun p => decide (p.1 = k)) = some n) : (l.filter fun p => decide (p.1 ≠ k)) = l.eraseIdx n := by
  induction l generalizing n with
  | nil => cases h
  | cons p l ih =>
    rw [List.findIdx?_cons] at h
    rw [List.map_cons, List.nodup_cons] at nd
    rw [List.filter_cons]
    by_cases e : p.1 = k
    · rw [decide_eq_true e] at h
      cases h
      rw [if_neg (by simp [e])]
      show _ = l
      refine List.filter_eq_self.mpr fun q hq => ?_
      rw [decide_eq_true_eq]
      intro z
      exact nd.1 (List.mem_map.mpr ⟨q, hq, z.trans e.symm⟩)
    · rw [decide_eq_false e] at h
      cases h2 : (l.findIdx? fun p => decide (p.1 = k)) with
      | none => rw [h2] at h; cases h
      | some m =>
        rw [h2] at h
        cases h
        rw [if_pos (by simp [e]), ih nd.2 h2]
        rfl
theorem none_of {l : List (κ × β)} {k : κ} (h : (l.findIdx? fun p => decide (p.1 = k)) = none) : k ∉ l.map (·.1) := by
  intro hm
  obtain ⟨p, hp, e⟩ := List.mem_map.mp hm
  have := List.findIdx?_eq_none_iff.mp h p hp
  simp [e] at this
end
theorem kix_map {β : Type} (l : List (Key × β)) (k : Key) : kix (l.map fun p => kD p.1) (kD k) = l.findIdx? fun p => decide (p.1 = k) := by
  unfold kix
  rw [List.findIdx?_map]
  congr 1
  funext p
  show decide (kyOf (kD p.1) = kyOf (kD k)) = _
  rw [kyOf_kD, kyOf_kD]
  by_cases e : p.1 = k
  · rw [e]; simp
  · rw [decide_eq_false e]
    refine decide_eq_false fun z => e ?_
    cases z
    rfl
theorem kix_tup {β : Type} (l : List (List Key × β)) (k : List Key) : kix (l.map fun p => D.tup (p.1.map kD)) (.tup (k.map kD)) = l.findIdx? fun p => decide (p.1 = k) := by
  unfold kix
  rw [List.findIdx?_map]
  congr 1
  funext p
  show decide (kyOf (.tup (p.1.map kD)) = kyOf (.tup (k.map kD))) = _
  rw [kyOf_tup, kyOf_tup]
  by_cases e : p.1 = k
  · rw [e]; simp
  · rw [decide_eq_false e]
    refine decide_eq_false fun z => e ?_
    cases z
    rfl
theorem map_modify {α β : Type} (g : α → β) (l : List α) (n : Nat) (f : α → α) (f' : β → β) (h : ∀ a, g (f a) = f' (g a)) : (l.modify n f).map g = (l.map g).modify n f' := by
  induction l generalizing n with
  | nil => cases n <;> rfl
  | cons a l ih =>
    cases n with
    | zero => simp [h]
    | succ n => simp [ih]
theorem modify_const {α : Type} (l : List α) (n : Nat) (x : α) : l.modify n (fun _ => x) = l.set n x := by
  induction l generalizing n with
  | nil => cases n <;> rfl
  | cons a l ih =>
    cases n with
    | zero => rfl
    | succ n => simp [ih]
theorem modify_same {α β : Type} (g : α → β) (l : List α) (n : Nat) (f : α → α) (h : ∀ a, g (f a) = g a) : (l.modify n f).map g = l.map g := by
  induction l generalizing n with
  | nil => cases n <;> rfl
  | cons a l ih =>
    cases n with
    | zero => simp [h]
    | succ n => simp [ih]

theorem map_erase {α β : Type} (g : α → β) (l : List α) (n : Nat) : (l.eraseIdx n).map g = (l.map g).eraseIdx n := by
  induction l generalizing n with
  | nil => rfl
  | cons a l ih =>
    cases n with
    | zero => rfl
    | succ n => simp [ih]
/-! ### what a dict holds -/
section
variable {K : KB} {F H : Hp} {a : Addr} {ho : HO} {ks : List D} {xs : List V} {k : D} {y v : V}
theorem dict_kinds (h : DictAt K F a ho ks xs) (hk : Rep K F k y) (ok : okKey ks k = true) (fh : Ex F H) (ha : H a = some ho) :
    (∃ (kvs : List (Key × V)) (q : Key), ho = .dK kvs ∧ ((a == sysModules) = false ∧ (kvs.map (·.1)).Nodup) ∧ ks = kvs.map (fun p => kD p.1) ∧ xs = kvs.map (·.2) ∧ k = kD q ∧ y = kV q ∧ kix ks k = kvs.findIdx? fun p => decide (p.1 = q)) ∨
    (∃ (kvs : List XK3) (q : List Key) (b : Addr), TD K H a kvs ∧ (kvs ≠ [] → KeysOk K F a kvs) ∧ (kvs.map (·.1)).Nodup ∧ ks = kvs.map (fun p => D.tup (p.1.map kD)) ∧ xs = kvs.map (·.2.2) ∧ k = .tup (q.map kD) ∧ y = .ref b ∧ SqT K F b (q.map kV) ∧ (kix ks k = kvs.findIdx? fun p => decide (p.1 = q)) ∧ (a == sysModules) = false ∨ (kvs = [] ∧ (a == sysModules) = false ∧ TD K H a [] ∧ ks = [] ∧ xs = [] ∧ k = .tup (q.map kD) ∧ y = .ref b ∧ SqT K F b (q.map kV) ∧ kix ks k = none)) := by
  rcases h with ⟨kvs, h1, h2, h3, h4⟩ | ⟨kvs, h1, ⟨h2, h5⟩, h3, h4⟩
  · cases hq : kyOf k with
    | none =>
      unfold okKey at ok
      rw [hq] at ok
      cases ok
    | some q =>
      cases q with
      | inl q =>
        have e := kyOf_inl hq
        subst e
        exact .inl ⟨kvs, q, h1, h2, h3, h4, rfl, rep_kD hk, by rw [h3, kix_map]⟩
      | inr q =>
        have e := kyOf_inr hq
        subst e
        obtain ⟨b, rfl, hb⟩ := rep_tupk hk
        cases kvs with
        | nil =>
          subst h3
          subst h4
          subst h1
          exact .inr ⟨[], q, b, .inr ⟨rfl, h2.1, ⟨ha, fun z => absurd rfl z⟩, rfl, rfl, rfl, rfl, hb, rfl⟩⟩
        | cons p r =>
          unfold okKey at ok
          rw [hq, h3, List.map_cons] at ok
          obtain ⟨pk, pv⟩ := p
          cases pk <;> cases ok
  · cases hq : kyOf k with
    | none =>
      unfold okKey at ok
      rw [hq] at ok
      cases ok
    | some q =>
      cases q with
      | inl q =>
        cases kvs with
        | nil => exact absurd rfl h2
        | cons p r =>
          unfold okKey at ok
          rw [hq, h3, List.map_cons] at ok
          cases ok
      | inr q =>
        have e := kyOf_inr hq
        subst e
        obtain ⟨b, rfl, hb⟩ := rep_tupk hk
        refine .inr ⟨kvs, q, b, .inl ⟨⟨by rw [ha, h1, hoT_ne h2], fun _ => ⟨h5.len, h5.sys, h5.nd, fun x hx => ex_t fh (h5.at_ x hx)⟩⟩, fun _ => h5, h5.nd, h3, h4, rfl, rfl, hb, by rw [h3, kix_tup], h5.sys⟩⟩
theorem dict_get (h : DictAt K F a ho ks xs) (hk : Rep K F k y) (ok : okKey ks k = true) (fh : Ex F H) (ha : H a = some ho) : XGet K H a y ((kix ks k).bind fun n => xs[n]?) := by
  rcases dict_kinds h hk ok fh ha with ⟨kvs, q, h1, h2, h3, h4, h5, h6, h7⟩ | ⟨kvs, q, b, h1 | h1⟩
  · refine .inl ⟨kvs, q, by rw [ha, h1], h6, ?_⟩
    rw [h7, h4]
    exact (find_ix kvs q).symm
  · obtain ⟨h1, _, h2, h3, h4, h5, h6, h7, h8, _⟩ := h1
    refine .inr ⟨kvs, q, b, h1, h6, ex_t fh h7, ?_⟩
    rw [h8, h4]
    have e := find_ix (kvs.map fun p => (p.1, p.2.2)) q
    rw [List.find?_map, List.findIdx?_map, List.map_map, Option.map_map] at e
    exact e.symm
  · obtain ⟨rfl, h1, h2, h3, h4, h5, h6, h7, h8⟩ := h1
    refine .inr ⟨[], q, b, h2, h6, ex_t fh h7, ?_⟩
    rw [h8]
    rfl
/-- d[k] = v -/
def putKs (ks : List D) (k : D) : List D := match kix ks k with
  | some _ => ks
  | none => ks ++ [k]
def putVs {α : Type} (ks : List D) (k : D) (xs : List α) (v : α) : List α := match kix ks k with
  | some n => xs.set n v
  | none => xs ++ [v]
theorem dict_put (h : DictAt K F a ho ks xs) (hk : Rep K F k y) (ok : okKey ks k = true) (fh : Ex F H) (ha : H a = some ho) (hl : ks.length < sizeLine) : ∃ ho', XPut K H a y v (upd H a ho') ∧ DictAt K F a ho' (putKs ks k) (putVs ks k xs v) := by
  rcases dict_kinds h hk ok fh ha with ⟨kvs, q, h1, h2, h3, h4, h5, h6, h7⟩ | ⟨kvs, q, b, h1 | h1⟩
  · refine ⟨.dK (putK kvs q v), .inl ⟨kvs, q, by rw [ha, h1], h6, by rw [h3, List.length_map] at hl; exact hl, rfl⟩, .inl ⟨putK kvs q v, rfl, ?_⟩⟩
    unfold putKs putVs
    rw [h7]
    have ev : (kvs.any fun kv => decide (kv.1 = q)) = (kvs.findIdx? fun p => decide (p.1 = q)).isSome := by
      rw [List.findIdx?_isSome]
    unfold putK
    rw [ev]
    cases hn : (kvs.findIdx? fun p => decide (p.1 = q)) with
    | some n =>
      rw [if_pos (show (some n).isSome = true from rfl)]
      have e := modify_of h2.2 hn (fun p => (p.1, v))
      rw [e]
      refine ⟨⟨h2.1, ?_⟩, ?_, ?_⟩
      · rw [modify_same (fun p : Key × V => p.1) kvs n (fun p => (p.1, v)) fun _ => rfl]
        exact h2.2
      · rw [modify_same (fun p : Key × V => kD p.1) kvs n (fun p => (p.1, v)) fun _ => rfl]
        exact h3
      · rw [map_modify (fun p : Key × V => p.2) kvs n (fun p => (p.1, v)) (fun _ => v) fun _ => rfl, modify_const, h4]
    | none =>
      rw [if_neg (by simp)]
      refine ⟨⟨h2.1, ?_⟩, ?_, ?_⟩
      · rw [List.map_append]
        exact List.nodup_append.mpr ⟨h2.2, by simp, fun x hx z hz e => none_of hn (by
          have : z = q := by simpa using hz
          rw [← this, ← e]
          exact hx)⟩
      · rw [List.map_append, ← h3, h5]
        rfl
      · rw [List.map_append, ← h4]
        rfl
  · obtain ⟨h1, h0, h2, h3, h4, h5, h6, h7, h8, hs⟩ := h1
    have hlen : kvs.length < sizeLine := by rw [h3, List.length_map] at hl; exact hl
    refine ⟨dX K a (putX kvs q b v), .inr ⟨kvs, q, b, h1, h6, ex_t fh h7, hlen, rfl⟩, .inr ⟨putX kvs q b v, rfl, ?_⟩⟩
    unfold putKs putVs
    rw [h8]
    have ev : (valX kvs q).isSome = (kvs.findIdx? fun p => decide (p.1 = q)).isSome := by
      unfold valX
      rw [Option.isSome_map, List.findIdx?_isSome, Bool.eq_iff_iff, List.find?_isSome, List.any_eq_true]
    cases hn : (kvs.findIdx? fun p => decide (p.1 = q)) with
    | some n =>
      have ep : putX kvs q b v = kvs.modify n (fun p => (p.1, p.2.1, v)) := by
        unfold putX
        rw [ev, hn, if_pos (show (some n).isSome = true from rfl)]
        exact modify_of h2 hn (fun p => (p.1, p.2.1, v))
      have hne : kvs ≠ [] := fun z => by rw [z] at hn; cases hn
      refine ⟨⟨putX_ne _ _ _ _, ?_, hs, ?_, ?_⟩, ?_, ?_⟩
      · rw [ep, List.length_modify]
        exact Nat.le_of_lt hlen
      · rw [ep, modify_same (fun p : XK3 => p.1) kvs n (fun p => (p.1, p.2.1, v)) fun _ => rfl]
        exact h2
      · intro x hx
        have hx' : (x.1, x.2.1) ∈ (putX kvs q b v).map fun p => (p.1, p.2.1) := List.mem_map.mpr ⟨x, hx, rfl⟩
        rw [ep, modify_same (fun p : XK3 => (p.1, p.2.1)) kvs n (fun p => (p.1, p.2.1, v)) fun _ => rfl] at hx'
        obtain ⟨z, hz, e⟩ := List.mem_map.mp hx'
        have := (h0 hne).at_ z hz
        have e1 := Prod.mk.inj e
        rw [← e1.1, ← e1.2]
        exact this
      · rw [ep, modify_same (fun p : XK3 => D.tup (p.1.map kD)) kvs n (fun p => (p.1, p.2.1, v)) fun _ => rfl]
        exact h3
      · rw [ep, map_modify (fun p : XK3 => p.2.2) kvs n (fun p => (p.1, p.2.1, v)) (fun _ => v) fun _ => rfl, modify_const, h4]
    | none =>
      have ep : putX kvs q b v = kvs ++ [(q, b, v)] := by
        unfold putX
        rw [ev, hn]
        exact if_neg (by simp)
      refine ⟨⟨putX_ne _ _ _ _, ?_, hs, ?_, ?_⟩, ?_, ?_⟩
      · rw [ep, List.length_append]
        exact hlen
      · rw [ep, List.map_append]
        refine List.nodup_append.mpr ⟨h2, by simp, fun x hx z hz e => ?_⟩
        have e2 : z = q := by simpa using hz
        have := none_of (l := kvs) hn
        rw [← e2, ← e] at this
        exact this hx
      · intro x hx
        rw [ep] at hx
        rcases List.mem_append.mp hx with hx | hx
        · exact (h0 (fun z => by rw [z] at hx; cases hx)).at_ x hx
        · have e2 : x = (q, b, v) := by simpa using hx
          rw [e2]
          exact h7
      · rw [ep, List.map_append, ← h3, h5]
        rfl
      · rw [ep, List.map_append, ← h4]
        rfl
  · obtain ⟨rfl, hs, h2, rfl, rfl, h5, h6, h7, h8⟩ := h1
    refine ⟨dX K a (putX [] q b v), .inr ⟨[], q, b, h2, h6, ex_t fh h7, hl, rfl⟩, .inr ⟨[(q, b, v)], rfl, ⟨by simp, by simp; decide, hs, by simp, fun x hx => ?_⟩, ?_, ?_⟩⟩
    · have e2 : x = (q, b, v) := by simpa using hx
      rw [e2]
      exact h7
    · rw [h5]
      unfold putKs
      rfl
    · unfold putVs
      rfl
/-- del d[k], d.pop(k) -/
theorem dict_del {n : Nat} (h : DictAt K F a ho ks xs) (hk : Rep K F k y) (ok : okKey ks k = true) (fh : Ex F H) (ha : H a = some ho) (hn : kix ks k = some n) (hv : xs[n]? = some v) : ∃ ho', XDel K H a y v (upd H a ho') ∧ DictAt K F a ho' (ks.eraseIdx n) (xs.eraseIdx n) := by
  rcases dict_kinds h hk ok fh ha with ⟨kvs, q, h1, h2, h3, h4, h5, h6, h7⟩ | ⟨kvs, q, b, h1 | h1⟩
  · rw [h7] at hn
    refine ⟨.dK (dropK kvs q), .inl ⟨kvs, q, by rw [ha, h1], h6, ?_, rfl⟩, .inl ⟨dropK kvs q, rfl, ?_⟩⟩
    · have := find_ix kvs q
      rw [hn] at this
      show (kvs.find? fun p => decide (p.1 = q)).map (·.2) = _
      rw [this, ← h4]
      exact hv
    · have e : dropK kvs q = kvs.eraseIdx n := erase_of h2.2 hn
      rw [e]
      refine ⟨⟨h2.1, ?_⟩, ?_, ?_⟩
      · rw [map_erase]
        exact h2.2.sublist (List.eraseIdx_sublist _ _)
      · rw [map_erase, h3]
      · rw [map_erase, h4]
  · obtain ⟨h1, h0, h2, h3, h4, h5, h6, h7, h8, hs⟩ := h1
    rw [h8] at hn
    have e : dropX kvs q = kvs.eraseIdx n := erase_of h2 hn
    refine ⟨hoT K a (dropX kvs q), .inr ⟨kvs, q, b, h1, h6, ex_t fh h7, ?_, rfl⟩, ?_⟩
    · have e2 := find_ix (kvs.map fun p => (p.1, p.2.2)) q
      rw [List.find?_map, List.findIdx?_map, List.map_map, Option.map_map] at e2
      have e3 : valX kvs q = (kvs.findIdx? fun p => decide (p.1 = q)).bind fun n => (kvs.map (·.2.2))[n]? := e2
      rw [e3, hn, ← h4]
      exact hv
    · have hne : kvs ≠ [] := fun z => by rw [z] at hn; cases hn
      rw [e]
      cases hz : kvs.eraseIdx n with
      | nil =>
        refine .inl ⟨[], rfl, ⟨hs, by simp⟩, ?_, ?_⟩
        · rw [h3, ← map_erase, hz]
          rfl
        · rw [h4, ← map_erase, hz]
          rfl
      | cons p r =>
        have ko := h0 hne
        have sub : (p :: r).Sublist kvs := by rw [← hz]; exact List.eraseIdx_sublist _ _
        refine .inr ⟨p :: r, rfl, ⟨by simp, Nat.le_trans sub.length_le ko.len, ko.sys, ko.nd.sublist (sub.map _), fun x hx => ko.at_ x (sub.subset hx)⟩, ?_, ?_⟩
        · rw [h3, ← map_erase, hz]
        · rw [h4, ← map_erase, hz]
  · obtain ⟨_, _, _, _, _, _, _, _, h8⟩ := h1
    rw [h8] at hn
    cases hn
end
end DL

/-! DLX: dicts seen; places as expressions. -/
namespace DL
open PySem PySem.Spec PyProof.Rows L2 Evl

/-! ### dicts, seen -/
def elemOX : O → D → Option O
  | .dct ks vs, k => if okKey ks k = true then (kix ks k).bind fun n => vs[n]? else none
  | .im (.dct ks ds), k => if okKey ks k = true then ((kix ks k).bind fun n => ds[n]?).map O.im else none
  | o, k => elemOO o k
def dixX (d : Den O) (di : Den D) : Den O := dbind d fun o => dbind (dq di) fun i => dlift (elemOX o i)
theorem owns_get {K : KB} {F H : Hp} {os : List O} {xs : List V} {fs : List Addr} {n : Nat} {o : O} (h : Owns K F H os xs fs) (e : os[n]? = some o) : ∃ x f, xs[n]? = some x ∧ Own K F H o x f := by
  obtain ⟨x, f1, f0, f2, k1, _, k3, _⟩ := owns_out h e
  exact ⟨x, f0, k1, k3⟩
def rIxX (K : KB) : R2 := fun x y H Q => rIx K x y H Q ∨ rXIx K x y H Q
theorem elemOX_ok {K : KB} {F H : Hp} {o x : O} {i : D} {v u : V} {fs : List Addr} {Q : VK} (fh : Ex F H) (h : Own K F H o v fs) (hi : Rep K F i u) (e : elemOX o i = some x) (k : ∀ w f, Own K F H x w f → Q w H) : rIxX K v u H Q := by
  unfold elemOX at e
  split at e
  · split at e
    · rename_i ok
      obtain ⟨a, ho, xs, r, rfl, _, h1, h0, h2⟩ := h
      have g := dict_get h0 hi ok fh h1
      obtain ⟨n, hn, hx⟩ := Option.bind_eq_some_iff.mp e
      rw [hn] at g
      obtain ⟨w, f, hw, how⟩ := owns_get h2 hx
      refine .inr ⟨a, w, rfl, ?_, k w f how⟩
      rw [← hw]
      exact g
    · cases e
  · split at e
    · rename_i ok
      obtain ⟨_, a, ho, xs, rfl, h1, h0, h2⟩ := h
      have g := dict_get h0 hi ok fh (fh _ _ h1)
      obtain ⟨d, hd, rfl⟩ := Option.map_eq_some_iff.mp e
      obtain ⟨n, hn, hx⟩ := Option.bind_eq_some_iff.mp hd
      rw [hn] at g
      obtain ⟨w, hw, how⟩ := h2.get n hx
      refine .inr ⟨a, w, rfl, ?_, k w [] ⟨rfl, how⟩⟩
      rw [← hw]
      exact g
    · cases e
  · exact .inl (elemOO_ok fh h hi e k)
theorem dict_len {K : KB} {F : Hp} {a : Addr} {ho : HO} {ks : List D} {xs : List V} (h : DictAt K F a ho ks xs) : ks.length = xs.length := by
  rcases h with ⟨kvs, _, _, h3, h4⟩ | ⟨kvs, _, _, h3, h4⟩ <;> rw [h3, h4, List.length_map, List.length_map]
theorem kix_lt {ks : List D} {k : D} {n : Nat} (h : kix ks k = some n) : n < ks.length := (List.findIdx?_eq_some_iff_findIdx_eq.mp h).1
def inXD : D → D → Option Bool
  | x, .dct ks _ => if okKey ks x = true then some (kix ks x).isSome else none
  | x, y => inD x y
def rIn4 (K : KB) (neg : Bool) : R2 := fun x y H Q => (if neg then rNotIn3 K x y H Q else rIn3 K x y H Q) ∨ rXIn K neg x y H Q
theorem dict_in {K : KB} {H : Hp} {x y : V} {dx : D} {ks vs : List D} {b neg : Bool} (h1 : Rep K H dx x) (h2 : Rep K H (.dct ks vs) y) (ok : okKey ks dx = true) (Q : VK) (q : Q (.bl (if neg then !(kix ks dx).isSome else (kix ks dx).isSome)) H) : rXIn K neg x y H Q := by
  obtain ⟨a, ho, xs, rfl, h3, h0, h4⟩ := h2
  have g := dict_get h0 h1 ok (Ex.refl _) h3
  refine ⟨a, _, rfl, g, ?_⟩
  have e : ((kix ks dx).bind fun n => xs[n]?).isSome = (kix ks dx).isSome := by
    cases hn : kix ks dx with
    | none => rfl
    | some n =>
      have := kix_lt hn
      rw [dict_len h0] at this
      show (xs[n]?).isSome = true
      rw [List.getElem?_eq_getElem this]
      rfl
  rw [e]
  exact q
theorem ok_inX {K : KB} : CmpOk K (rIn4 K false) inXD := by
  intro H x y dx dy b h1 h2 hg Q q
  unfold inXD at hg
  split at hg
  · split at hg
    · rename_i ok
      cases hg
      exact .inr (dict_in (b := true) h1 h2 ok Q q)
    · cases hg
  · exact .inl (ok_in H x y dx dy b h1 h2 hg Q q)
def notinXD : D → D → Option Bool
  | x, .dct ks _ => if okKey ks x = true then some (!(kix ks x).isSome) else none
  | x, y => notinD x y
theorem ok_notinX {K : KB} : CmpOk K (rIn4 K true) notinXD := by
  intro H x y dx dy b h1 h2 hg Q q
  unfold notinXD at hg
  split at hg
  · split at hg
    · rename_i ok
      cases hg
      exact .inr (dict_in (b := true) h1 h2 ok Q q)
    · cases hg
  · exact .inl (ok_notin H x y dx dy b h1 h2 hg Q q)
section
variable {X : Cx}
theorem op_in4 (hu : X.A.units + 65 < cLine) : OpR X (compareOp .In) (rIn4 X.B false) := (op_in3 hu).or (op_inX (by omega))
theorem op_notin4 (hu : X.A.units + 65 < cLine) : OpR X (compareOp .NotIn) (rIn4 X.B true) := (op_notin3 hu).or (op_notinX (by omega))
theorem ix_seqX (hu : X.A.units + 65 < cLine) : IxR X (rIxX X.B) := ix_seq.or (ix_dict (by omega))
end
section
variable {X : Cx} {W : WX} {a b ex : Expr} {pos p : Pos} {x : Str}
theorem do_ixX {d : Den O} {di : Den D} (hu : X.A.units + 65 < cLine) (ha : DO X W a d) (hb : DI X W b di) (hs : PlainIx b := by exact fun _ _ => rfl) : DO X W (.Subscript a b pos) (dixX d di) := ⟨pe_weak (pe_ix (ix_seqX hu) ha.run hb.run hs) fun σ H Q q => by
  obtain ⟨c, F, e, ts, R, q⟩ := q
  refine ⟨c, F, e, ts, R, q.bind (rel := relW) fun F1 H1 e1 x v ef hr q1 => ⟨c, F1, e1, ts, hr.1, ?_⟩⟩
  exact (q1.bind (rel := relI) (Q' := fun u H2 => Ex H1 H2 → rIxX X.B v u H2 Q) fun F2 H2 e2 i u ef2 hr2 q2 ee => by
    obtain ⟨z, hz, k⟩ := q2.lift
    obtain ⟨fs, ho⟩ := hr.2
    have ho2 := Own.mono ef2 _ _ _ (fun p _ w z => ee p w z) ho
    exact elemOX_ok hr2.1.fh ho2 hr2.2 hz fun w f hw => k F2 H2 w (Ex.refl _) (Ex.refl _) ⟨hr2.1, f, hw⟩).toQ⟩
/-! ### d.get(k), d.get(k, x) -/
def getOX (o : O) (k : D) (x : O) : Option O := match o with
  | .dct ks vs => if okKey ks k = true then some (((kix ks k).bind fun n => vs[n]?).getD x) else none
  | .im (.dct ks ds) => if okKey ks k = true then some ((((kix ks k).bind fun n => ds[n]?).map O.im).getD x) else none
  | _ => none
def isDO : O → Bool
  | .dct _ _ => true
  | .im (.dct _ _) => true
  | _ => false
def dgetX (d : Den O) (das : Den (List D)) : Den O := dbind d fun o => if isDO o = true then dbind (dq das) fun as => dlift (match as with
  | [k] => getOX o k (.im .non)
  | [k, x] => getOX o k (.im x)
  | _ => none) else fun _ => none
theorem getOX_ok {K : KB} {F H : Hp} {o z : O} {k x : D} {v u w : V} {fs : List Addr} (fh : Ex F H) (h : Own K F H o v fs) (hk : Rep K F k u) (hx : Rep K F x w) (e : getOX o k (.im x) = some z) :
    ∃ a r f, v = .ref a ∧ XGet K H a u r ∧ Own K F H z (r.getD w) f := by
  unfold getOX at e
  split at e
  · split at e
    · rename_i ok
      cases e
      obtain ⟨a, ho, xs, r, rfl, _, h1, h0, h2⟩ := h
      have g := dict_get h0 hk ok fh h1
      cases hn : kix _ k with
      | none =>
        rw [hn] at g
        exact ⟨a, none, [], rfl, g, rfl, hx⟩
      | some n =>
        rw [hn] at g
        have hl := kix_lt hn
        rw [dict_len h0, ← h2.length] at hl
        obtain ⟨y, f, hy, how⟩ := owns_get h2 (List.getElem?_eq_getElem hl)
        refine ⟨a, _, f, rfl, g, ?_⟩
        dsimp only [Option.bind_some]
        rw [hy, List.getElem?_eq_getElem hl]
        exact how
    · cases e
  · split at e
    · rename_i ok
      cases e
      obtain ⟨_, a, ho, xs, rfl, h1, h0, h2⟩ := h
      have g := dict_get h0 hk ok fh (fh _ _ h1)
      cases hn : kix _ k with
      | none =>
        rw [hn] at g
        exact ⟨a, none, [], rfl, g, rfl, hx⟩
      | some n =>
        rw [hn] at g
        have hl := kix_lt hn
        rw [dict_len h0, ← h2.length] at hl
        obtain ⟨y, hy, how⟩ := h2.get n (List.getElem?_eq_getElem hl)
        refine ⟨a, _, [], rfl, g, ?_⟩
        dsimp only [Option.bind_some]
        rw [hy, List.getElem?_eq_getElem hl]
        exact ⟨rfl, how⟩
    · cases e
  · cases e
theorem isDO_ok {K : KB} {F H : Hp} {o : O} {v : V} {fs : List Addr} (fh : Ex F H) (h : Own K F H o v fs) (e : isDO o = true) : ∃ a, v = .ref a ∧ IsX K H a := by
  have key : ∀ {a : Addr} {ho : HO} {ks : List D} {xs : List V}, H a = some ho → DictAt K F a ho ks xs → IsX K H a := fun h1 h0 => by
    rcases h0 with ⟨kvs, e1, _⟩ | ⟨kvs, e1, _⟩
    · exact .inl ⟨kvs, by rw [h1, e1]⟩
    · exact .inr ⟨kvs, by rw [h1, e1]⟩
  unfold isDO at e
  split at e
  · obtain ⟨a, ho, xs, r, rfl, _, h1, h0, h2⟩ := h
    exact ⟨a, rfl, key h1 h0⟩
  · obtain ⟨_, a, ho, xs, rfl, h1, h0, h2⟩ := h
    exact ⟨a, rfl, key (fh _ _ h1) h0⟩
  · cases e
theorem do_getX {d : Den O} {e1 : Expr} {es : List Expr} {das : Den (List D)} {o : Expr}
    (ho : DO X W o d) (ha : DA X W (e1 :: es) das) (hpe : ∀ {to : TE} {t : TA}, PE X o to → PA X (e1 :: es) t → PE X ex (tXM X.B (rXGet X.B) to t)) : DO X W ex (dgetX d das) := ⟨pe_weak (hpe ho.run ha.run) fun σ H Q q => by
  obtain ⟨c, F, e, ts, R, q⟩ := q
  refine ⟨c, F, e, ts, R, q.bind (rel := relW) fun F1 H1 e1 o v ef hr q1 => ?_⟩
  obtain ⟨R1, fs, ho⟩ := hr
  obtain ⟨r, hr3, post⟩ := q1
  split at hr3
  · rename_i hd
    refine ⟨isDO_ok R1.fh ho hd, c, F1, e1, ts, R1, ?_⟩
    have q2 : At relW X.B W (dbind (dq das) fun as => dlift (match as with
      | [k] => getOX o k (.im .non)
      | [k, x] => getOX o k (.im x)
      | _ => none)) c F1 σ e1 ts H1 Q := ⟨r, hr3, post⟩
    exact (q2.bind (rel := relA) (Q' := fun us H2 => Ex H1 H2 → rXGet X.B v us H2 Q) fun F2 H2 e2 as us ef2 hr2 q3 ee => by
      obtain ⟨R2, hrs⟩ := hr2
      obtain ⟨z, hz, k⟩ := q3.lift
      have ho2 := Own.mono ef2 _ _ _ (fun p _ w z => ee p w z) ho
      split at hz
      · obtain ⟨u, rfl, hu⟩ := reps1 hrs
        obtain ⟨a, r, f, rfl, g, how⟩ := getOX_ok (x := .non) (w := V.non) R2.fh ho2 hu rfl hz
        exact ⟨a, r, rfl, .inl ⟨u, rfl, g, k F2 H2 _ (Ex.refl _) (Ex.refl _) ⟨R2, f, how⟩⟩⟩
      · obtain ⟨u, w, rfl, hu, hw⟩ := reps2 hrs
        obtain ⟨a, r, f, rfl, g, how⟩ := getOX_ok R2.fh ho2 hu hw hz
        exact ⟨a, r, rfl, .inr ⟨u, w, rfl, g, k F2 H2 _ (Ex.refl _) (Ex.refl _) ⟨R2, f, how⟩⟩⟩
      · cases hz).toQ
  · cases hr3⟩
/-! ### list(d) -/
def keysOX : O → Option (List D)
  | .dct ks _ => some ks
  | .im (.dct ks _) => some ks
  | _ => none
def dlistX (d : Den O) : Den Rv := dbind d fun o => dlift ((keysOX o).map fun ds => Rv.new (.lst (ds.map O.im)))
end
theorem px_addr {kvs : List XK3} {ks : List (List Key × Addr × Value)} (pr : PX kvs ks) : (kvs.map fun kv => kv.2.1) = ks.map fun x => x.2.1 := by
  induction pr with
  | nil => rfl
  | cons h t ih => rw [List.map_cons, List.map_cons, ih, h.2.1]
theorem rep_key {K : KB} {F : Hp} (k : Key) : Rep K F (kD k) (kV k) := by cases k <;> rfl
/-- list(d): the keys -/
def rListX (K : KB) : List V → Hp → VK → Prop := fun xs H Q => ∃ a, xs = [.ref a] ∧ ((∃ kvs, H a = some (.dK kvs) ∧ ∀ p, H p = none → Q (.ref p) (upd H p (.lst (kvs.map fun kv => kV kv.1)))) ∨
  ∃ kvs, TD K H a kvs ∧ kvs ≠ [] ∧ ∀ p, H p = none → Q (.ref p) (upd H p (.lst (kvs.map fun kv => .ref kv.2.1))))
theorem call_listX {X : Cx} (hc : X.calm = true) : CallR X (.type "list") (rListX X.B) := by
  intro pins s σ H xs us Q I r h
  obtain ⟨d, rfl, h⟩ := h
  rcases h with ⟨kvs, hd, q⟩ | ⟨kvs, hd, hne, q⟩
  · exact call_listD hc pins s σ H _ _ Q I r ⟨d, kvs, rfl, .inl hd, q⟩
  · obtain ⟨u, rfl, rx⟩ := r.one
    cases rx
    obtain ⟨z, hs, ks, pr, o, es, ep, ho, hx, hdt, he, _, hn⟩ := td_of I hd
    have l1 : es.size = ks.length := size_of_entries he
    have l2 : kvs.length = ks.length := Paired.length pr
    refine PySem.W.kdl_call (kdl_raw hs hx hdt) (I.ok.hd hc) ho (by omega) fun h' tk acc' c' kp e it => ?_
    have ea : acc'.toList = ks.map fun x => Value.ref x.2.1 := by
      have hl : acc'.toList.length = ks.length := by rw [Array.length_toList, it.1]; exact l1
      apply List.ext_getElem?
      intro j
      rw [List.getElem?_map]
      cases hj : acc'.toList[j]? with
      | none =>
        have h1 := List.getElem?_eq_none_iff.mp hj
        rw [List.getElem?_eq_none (by omega)]
        all_goals rfl
      | some v =>
        obtain ⟨en, hen, hv⟩ := it.2 j v (by rw [← Array.getElem?_toList]; exact hj)
        have qe := entry_at he j
        rw [hen] at qe
        cases hb : ks[j]? with
        | none =>
          rw [hb] at qe
          exact nomatch (show some en = none from qe)
        | some b =>
          rw [hb] at qe
          have e2 : en = entryOfKey (tupleKind (mixKind X.prog X.w)) b := Option.some.inj qe
          rw [hv, e2]
          all_goals rfl
    have ek : (kvs.map fun kv => kv.2.1) = ks.map fun x => x.2.1 := by
      exact px_addr pr
    have eb : acc'.toList = (kvs.map fun x => x.2.1).map Value.ref := by rw [ea, ek, List.map_map]; all_goals rfl
    have rv : Vals ((kvs.map fun x => x.2.1).map V.ref) acc'.toList := by rw [eb]; exact vals_refs _
    have hz : ((kvs.map fun x => x.2.1).map V.ref).length ≤ sizeLine := by rw [List.length_map, List.length_map]; omega
    have qq := q s.heap.objs.size (I.hok.fresh (Nat.le_refl _))
    rw [show (kvs.map fun kv => V.ref kv.2.1) = (kvs.map fun x => x.2.1).map V.ref by rw [List.map_map]; rfl] at qq
    refine ⟨.ref s.heap.objs.size, _, I.laid (t' := tk) (o := .lst ((kvs.map fun x => x.2.1).map V.ref)) kp (Nat.le_refl _) ?_, rfl, qq⟩
    exact ⟨hz, acc'.toList, c', rv, by rw [Array.toArray_toList]; exact e⟩
section
variable {X : Cx} {W : WX} {a b ex : Expr} {pos p : Pos} {x : Str}
theorem reps_keys {K : KB} {F : Hp} : ∀ kvs : List (Key × V), Reps K F (kvs.map fun p => kD p.1) (kvs.map fun p => kV p.1)
  | [] => rfl
  | p :: r => ⟨_, _, rfl, rep_key _, reps_keys r⟩
theorem reps_kV {K : KB} {F : Hp} : ∀ k : List Key, Reps K F (k.map kD) (k.map kV)
  | [] => rfl
  | p :: r => ⟨_, _, rfl, rep_key _, reps_kV r⟩
theorem reps_tkeys {K : KB} {F : Hp} : ∀ kvs : List XK3, (∀ x ∈ kvs, SqT K F x.2.1 (x.1.map kV)) → Reps K F (kvs.map fun p => D.tup (p.1.map kD)) (kvs.map fun p => .ref p.2.1)
  | [], _ => rfl
  | p :: r, h => ⟨_, _, rfl, ⟨p.2.1, _, rfl, h p List.mem_cons_self, reps_kV p.1⟩, reps_tkeys r fun x hx => h x (List.mem_cons_of_mem _ hx)⟩
theorem de_listX {d : Den O} (hc : X.calm = true) (hg : Gl X x) (hm : X.mg x = none) (hv : bootBuiltins x = some (.type "list")) (ha : DO X W a d) (hn : x ≠ "__name__" := by decide) (hdb : (x == ("__debug__" : Str)) = false := by decide)
    (he : starEach (a :: []) X.env = (false, eval a X.env) :: starEach [] X.env := by rfl) (hpl : (backTo pos (starEach [] X.env)).any (·.1) = false := by rfl) : DE X W (.Call (.Name x p) [a] [] pos) (dlistX d) :=
  ⟨pe_weak (pe_callTy (call_listX hc) hg hm hv (pa_cons ha.run pa_nil he) hn hdb he hpl) fun σ H Q q => by
    obtain ⟨c, F, e, ts, R, q⟩ := q
    refine ⟨c, F, e, ts, R, q.bind (rel := relW) fun F1 H1 e1 o v ef hr q1 => ?_⟩
    obtain ⟨z, hz, k⟩ := q1.lift
    obtain ⟨ds, hd, rfl⟩ := Option.map_eq_some_iff.mp hz
    obtain ⟨R1, fs, ho⟩ := hr
    have fin : ∀ {a : Addr} {ho : HO} {xs : List V}, H1 a = some ho → DictAt X.B F1 a ho ds xs → rListX X.B [.ref a] H1 Q := by
      intro a ho xs h1 h0
      have mk : ∀ {ws : List V}, Reps X.B F1 ds ws → ∀ l, H1 l = none → Q (.ref l) (upd H1 l (.lst ws)) := fun hrs l hl => k F1 _ (.ref l) (Ex.refl _) (Ex.new hl) (R1.newO hl ⟨l, _, [], rfl, rfl, upd_same, owns_im hrs⟩)
      rcases h0 with ⟨kvs, e1, _, e2, e3⟩ | ⟨kvs, e1, ⟨hne, ko⟩, e2, e3⟩
      · exact ⟨a, rfl, .inl ⟨kvs, by rw [h1, e1], mk (by rw [e2]; exact reps_keys kvs)⟩⟩
      · exact ⟨a, rfl, .inr ⟨kvs, ⟨by rw [h1, e1, hoT_ne hne], fun _ => ⟨ko.len, ko.sys, ko.nd, fun x hx => ex_t R1.fh (ko.at_ x hx)⟩⟩, hne, mk (by rw [e2]; exact reps_tkeys kvs ko.at_)⟩⟩
    unfold keysOX at hd
    split at hd
    · cases hd
      obtain ⟨a, ho, xs, r, rfl, _, h1, h0, h2⟩ := ho
      exact fin h1 h0
    · cases hd
      obtain ⟨_, a, ho, xs, rfl, h1, h0, h2⟩ := ho
      exact fin (R1.fh _ _ h1) h0
    · cases hd⟩
/-! ### {} -/
theorem pe_dict0 : PE X (.Dict [] [] pos) (fun _ H Q => ∀ p, H p = none → (p == sysModules) = false → Q (.ref p) (upd H p (.dK []))) := ⟨fun pins s σ H Q I h =>
  wpAny_Dict_empty ⟨.ref s.heap.objs.size, _, I.laid (a := s.heap.objs.size) (o := .dK []) (t' := s.toks) (fun _ _ q => Heap.get?_push_of_some _ q) (Nat.le_refl _) (dk_empty s.heap I.big), rfl, h _ (I.hok.fresh (Nat.le_refl _)) (beq_eq_false_iff_ne.mpr (Ne.symm (Nat.ne_of_lt I.big)))⟩⟩
theorem de_dict0 : DE X W (.Dict [] [] pos) (dpure (.new (.dct [] []))) := ⟨pe_weak pe_dict0 fun σ H Q q => by
  obtain ⟨c, F, e, ts, R, q⟩ := q
  intro p hp hs
  exact At.pure q F _ (.ref p) (Ex.refl _) (Ex.new hp) (R.newO hp ⟨p, .dK [], [], [], rfl, rfl, upd_same, .inl ⟨[], rfl, ⟨hs, by simp⟩, rfl, rfl⟩, rfl, rfl⟩)⟩
end
end DL

/-! DLY: places: stores, removals, calls. -/
namespace DL
open PySem PySem.Spec PyProof.Rows L2 Evl

/-! ### places as expressions -/
abbrev Pl := Nat × List Nat
def plO (pl : Pl) (e : Env) : Option O := match e[pl.1]? with
  | some (some (_, o)) => match O.get pl.2 o with
    | some t => if t.kids.isSome = true then some t else none
    | none => none
  | _ => none
def plPut (pl : Pl) (e : Env) (o' : O) : Env := match e[pl.1]? with
  | some (some (b, o)) => e.set pl.1 (some (b, O.put pl.2 o o'))
  | _ => e
theorem plO_eq {pl : Pl} {e : Env} {t : O} (h : plO pl e = some t) : ∃ b o, e[pl.1]? = some (some (b, o)) ∧ O.get pl.2 o = some t ∧ t.kids.isSome = true ∧ ∀ o', plPut pl e o' = e.set pl.1 (some (b, O.put pl.2 o o')) := by
  unfold plO at h
  split at h
  · rename_i b o he
    split at h
    · rename_i t' hg
      split at h
      · rename_i hk
        cases h
        exact ⟨b, o, he, hg, hk, fun o' => by unfold plPut; rw [he]⟩
      · cases h
    · cases h
  · cases h
def relP : Rel Pl V := fun K c F H σ e ts pl v => RE K c F H σ e ts ∧ ∃ v0, σ[pl.1]? = some (some v0) ∧ WalkTo K H v0 pl.2 v
structure DPl (X : Cx) (W : WX) (ex : Expr) (den : Den Pl) : Prop where
  run : PE X ex (rd relP X.B W den)
section
variable {K : KB} {c : Ctx} {F F' H H' : Hp} {σ : L2.St} {e : Env} {ts : List (V × O)}
/-- the place's object, taken out -/
theorem RE.outPl {pl : Pl} {t : O} {v v0 : V} (R : RE K c F H σ e ts) (h : plO pl e = some t) (hv : σ[pl.1]? = some (some v0)) (hw : WalkTo K H v0 pl.2 v) :
    ∃ a e1, v = .ref a ∧ RE K c F H σ e1 ((.ref a, t) :: ts) ∧ ∀ {F' H' : Hp} {ts' : List (V × O)} {t' : O}, RE K c F' H' σ e1 ((.ref a, t') :: ts') → RE K c F' H' σ (plPut pl e t') ts' := by
  obtain ⟨b, o, he, hg, hk, hp⟩ := plO_eq h
  obtain ⟨v1, a, h1, h2, R1⟩ := R.outP he hg hk
  rw [hv] at h1
  cases h1
  have ev := hw.fn h2
  subst ev
  refine ⟨a, _, rfl, R1, fun R2 => ?_⟩
  rw [hp]
  exact R2.inP (List.getElem?_eq_some_iff.mp he).1 hg
theorem plO_own {pl : Pl} {t : O} {v v0 : V} (R : RE K c F H σ e ts) (h : plO pl e = some t) (hv : σ[pl.1]? = some (some v0)) (hw : WalkTo K H v0 pl.2 v) : ∃ a fs, v = .ref a ∧ Own K F H t (.ref a) fs := by
  obtain ⟨a, e1, rfl, R1, _⟩ := R.outPl h hv hw
  obtain ⟨fs, ho⟩ := R1.temp
  exact ⟨a, fs, rfl, ho⟩
end
def dplVar (i : Nat) : Den Pl := fun e => (plO (i, []) e).map fun _ => .ok false e (i, [])
def fix (ns : List Str) (f : Str) : Option Nat := ns.findIdx? fun n => f == n
def dplFld (d : Den Pl) (Cs : List Addr) (f : Str) : Den Pl := dbind d fun pl e => match plO pl e with
  | some (.ins C ns os) => if C ∈ Cs then (match fix ns f with
    | some n => if n < os.length then some (.ok false e (pl.1, pl.2 ++ [n])) else none
    | none => none) else none
  | _ => none
def dplIx (d : Den Pl) (dk : Den D) : Den Pl := dbind d fun pl => dbind (dq dk) fun k e => match plO pl e with
  | some (.dct ks os) => if okKey ks k = true then (match kix ks k with
    | some n => if n < os.length then some (.ok false e (pl.1, pl.2 ++ [n])) else none
    | none => none) else none
  | some (.lst os) => match k with
    | .int j => match ixN os.length j with
      | some n => if n < os.length then some (.ok false e (pl.1, pl.2 ++ [n])) else none
      | none => none
    | _ => none
  | _ => none
theorem fix_look {β : Type} {f : Str} : ∀ {ns : List Str} {xs : List β} {n : Nat} {x : β}, fix ns f = some n → xs[n]? = some x → (ns.zip xs).lookup f = some x
  | [], xs, n, x, h, _ => by cases h
  | m :: ns, [], n, x, _, h2 => by simp at h2
  | m :: ns, y :: xs, n, x, h, h2 => by
    unfold fix at h
    rw [List.findIdx?_cons] at h
    rw [List.zip_cons_cons, List.lookup_cons]
    cases q : f == m with
    | true =>
      rw [q] at h
      cases h
      simpa using h2
    | false =>
      rw [q] at h
      cases h3 : (ns.findIdx? fun n => f == n) with
      | none => rw [h3] at h; cases h
      | some k =>
        rw [h3] at h
        cases h
        exact fix_look (ns := ns) h3 (by simpa using h2)
theorem fix_no {β : Type} {f : Str} : ∀ {ns : List Str} {xs : List β}, fix ns f = none → (ns.zip xs).lookup f = none
  | [], xs, h => by simp
  | m :: ns, [], _ => by simp
  | m :: ns, y :: xs, h => by
    unfold fix at h
    rw [List.findIdx?_cons] at h
    rw [List.zip_cons_cons, List.lookup_cons]
    cases q : f == m with
    | true => rw [q] at h; cases h
    | false =>
      rw [q] at h
      cases h3 : (ns.findIdx? fun n => f == n) with
      | none => exact fix_no (ns := ns) h3
      | some k => rw [h3] at h; cases h
section
variable {X : Cx} {W : WX} {a b ex : Expr} {pos p : Pos}
theorem dpl_var {i : Nat} (h : PE X ex (tVar i)) : DPl X W ex (dplVar i) := ⟨pe_weak h fun σ H Q q => by
  obtain ⟨c, F, e, ts, R, r, hr, post⟩ := q
  unfold dplVar at hr
  obtain ⟨t, ht, rfl⟩ := Option.map_eq_some_iff.mp hr
  obtain ⟨b, o, he, _⟩ := plO_eq ht
  obtain ⟨v, fs, hv, ho⟩ := R.slot he
  exact ⟨v, hv, post F H v (Ex.refl _) (fun _ => Ex.refl _) ⟨R, v, hv, rfl⟩⟩⟩
theorem own_kid {K : KB} {F H : Hp} {t : O} {os : List O} {a : Addr} {fs : List Addr} {n : Nat} (h : Own K F H t (.ref a) fs) (hk : t.kids = some os) (hn : n < os.length) : ∃ xs x, Kids K H a xs ∧ xs[n]? = some x ∧ os.length = xs.length := by
  obtain ⟨a', xs, r, ea, _, hkd, hos, _⟩ := own_kids h hk
  cases ea
  obtain ⟨x, f, hx, _⟩ := owns_get hos (List.getElem?_eq_getElem hn)
  exact ⟨xs, x, hkd, hx, hos.length⟩
theorem dpl_fld {d : Den Pl} {Cs : List Addr} {f : Str} (ha : DPl X W a d) (hC : ∀ C ∈ Cs, Cls X.K C ∧ NoAttr X.K C f) (hb : attributeBase a f X.env (eval a X.env) = eval a X.env := by rfl) : DPl X W (.Attribute a f pos) (dplFld d Cs f) := ⟨pe_weak (pe_fld ha.run hb) fun σ H Q q => by
  obtain ⟨c, F, e, ts, R, q⟩ := q
  refine ⟨c, F, e, ts, R, q.bind (rel := relP) fun F1 H1 e1 pl v ef hr q1 => ?_⟩
  obtain ⟨R1, v0, hv, hw⟩ := hr
  obtain ⟨r, hr2, post⟩ := q1
  dsimp only at hr2
  split at hr2
  · rename_i C ns os hpl
    split at hr2
    · rename_i hmem
      split at hr2
      · rename_i n hn
        split at hr2
        · rename_i hlt
          cases hr2
          obtain ⟨a, fs, rfl, ho⟩ := plO_own R1 hpl hv hw
          obtain ⟨xs, x, hk, hx, hl⟩ := own_kid ho rfl hlt
          obtain ⟨a', dx, ys, r, ea, _, h1, h0, h2⟩ := ho
          cases ea
          have exy : xs = ys := hk.fn ⟨_, h1, .inr (.inr (.inl ⟨C, dx, ns, h0, rfl⟩))⟩
          subst exy
          exact ⟨a, C, dx, _, x, rfl, h1, (hC C hmem).1, (hC C hmem).2, fix_look hn hx, post F1 H1 x (Ex.refl _) (fun _ => Ex.refl _) ⟨R1, v0, hv, hw.snoc hk hx⟩⟩
        · cases hr2
      · cases hr2
    · cases hr2
  · cases hr2⟩
theorem dpl_ix {d : Den Pl} {dk : Den D} (hu : X.A.units + 65 < cLine) (ha : DPl X W a d) (hb : DI X W b dk) (hs : PlainIx b := by exact fun _ _ => rfl) : DPl X W (.Subscript a b pos) (dplIx d dk) := ⟨pe_weak (pe_ix (ix_seqX hu) ha.run hb.run hs) fun σ H Q q => by
  obtain ⟨c, F, e, ts, R, q⟩ := q
  refine ⟨c, F, e, ts, R, q.bind (rel := relP) fun F1 H1 e1 pl v ef hr q1 => ⟨c, F1, e1, ts, hr.1, ?_⟩⟩
  exact (q1.bind (rel := relI) (Q' := fun u H2 => Ex H1 H2 → rIxX X.B v u H2 Q) fun F2 H2 e2 k u ef2 hr2 q2 ee => by
    obtain ⟨_, v0, hv, hw⟩ := hr
    obtain ⟨R2, hrk⟩ := hr2
    have hw := hw.mono ee
    obtain ⟨r, hr3, post⟩ := q2
    dsimp only at hr3
    split at hr3
    · rename_i ks os hpl
      split at hr3
      · rename_i ok
        split at hr3
        · rename_i n hn
          split at hr3
          · rename_i hlt
            cases hr3
            obtain ⟨a, fs, rfl, ho⟩ := plO_own R2 hpl hv hw
            obtain ⟨xs, x, hk, hx, hl⟩ := own_kid ho rfl hlt
            obtain ⟨a', h', ys, r, ea, _, h1, h0, h2⟩ := ho
            cases ea
            have g := dict_get h0 hrk ok R2.fh h1
            have exy : xs = ys := by
              refine hk.fn ⟨_, h1, ?_⟩
              rcases h0 with ⟨kvs, e3, _, _, e4⟩ | ⟨kvs, e3, _, _, e4⟩
              · exact .inr (.inr (.inr (.inl ⟨kvs, e3, e4⟩)))
              · exact .inr (.inr (.inr (.inr ⟨kvs, e3, e4⟩)))
            subst exy
            rw [hn] at g
            refine .inr ⟨a, x, rfl, ?_, post F2 H2 x (Ex.refl _) (fun _ => Ex.refl _) ⟨R2, v0, hv, hw.snoc hk hx⟩⟩
            rw [← hx]
            exact g
          · cases hr3
        · cases hr3
      · cases hr3
    · rename_i os hpl
      split at hr3
      · rename_i j
        split at hr3
        · rename_i n hn
          split at hr3
          · rename_i hlt
            cases hr3
            obtain ⟨a, fs, rfl, ho⟩ := plO_own R2 hpl hv hw
            obtain ⟨xs, x, hk, hx, hl⟩ := own_kid ho rfl hlt
            obtain ⟨a', ys, r, ea, _, h1, h2⟩ := ho
            cases ea
            have exy : xs = ys := hk.fn ⟨_, h1, .inl rfl⟩
            subst exy
            refine .inl (.inl ⟨a, xs, j, x, rfl, hrk, SqL.of h1, ?_, post F2 H2 x (Ex.refl _) (fun _ => Ex.refl _) ⟨R2, v0, hv, hw.snoc hk hx⟩⟩)
            unfold atI
            rw [← hl, hn]
            exact hx
          · cases hr3
        · cases hr3
      · cases hr3
    · cases hr3).toQ⟩
end
end DL

/-! DLZ: places: stores, removals, methods. -/
namespace DL
open PySem PySem.Spec PyProof.Rows L2 Evl

section
variable {K : KB} {c : Ctx} {F F' H H' : Hp} {σ : L2.St} {e : Env} {ts : List (V × O)}
theorem upd_keep {a : Addr} {u : HO} {fs : List Addr} (h : ∀ p ∈ fs, p ≠ a) : ∀ p ∈ fs, ∀ w, H p = some w → upd H a u p = some w := fun p hp w z => by rw [upd_ne (h p hp)]; exact z
/-- a temporary, opened: it may be changed where it stands -/
theorem RE.openT {a : Addr} {t : O} {os : List O} {A : List (V × O)} (R : RE K c F H σ e ((.ref a, t) :: (A ++ ts))) (hk : t.kids = some os) :
    ∃ r fA, Own K F H t (.ref a) (a :: r) ∧ (∃ xs, Kids K H a xs ∧ Owns K F H os xs r) ∧ Held K F H A fA ∧ (r ++ fA).Nodup ∧ (∀ p ∈ r ++ fA, p ≠ a) ∧ ∀ u t' fs' B fB, Own K F (upd H a u) t' (.ref a) (a :: fs') → Held K F (upd H a u) B fB → (fs' ++ fB).Nodup → (∀ p ∈ fs' ++ fB, p ∈ r ++ fA) →
      RE K c F (upd H a u) σ e ((.ref a, t') :: (B ++ ts)) := by
  obtain ⟨hs, fs, h1, h2, h3, h4⟩ := R.hd
  obtain ⟨f1, f2, rfl, ho, h2⟩ := h2
  have h2 : Held K F H (A ++ (ts ++ hs)) f2 := by rw [← List.append_assoc]; exact h2
  obtain ⟨fA, f3, rfl, hA, h5⟩ := h2.split
  obtain ⟨a', xs, r, ea, e1, hkd, hos, _⟩ := own_kids ho hk
  cases ea
  subst e1
  have nd := List.nodup_append.mp h3
  have nd1 := List.nodup_cons.mp nd.1
  have nd2 := List.nodup_append.mp nd.2.1
  have ne : ∀ p ∈ r ++ fA, p ≠ a := fun p hp z => by
    subst z
    rcases List.mem_append.mp hp with hp | hp
    · exact nd1.1 hp
    · exact nd.2.2 p List.mem_cons_self p (List.mem_append_left _ hp) rfl
  have ne3 : ∀ p ∈ f3, p ≠ a := fun p hp z => by
    subst z
    exact nd.2.2 p List.mem_cons_self p (List.mem_append_right _ hp) rfl
  have fa : F a = none ∧ c.G a = none := h4 a (List.mem_append_left _ List.mem_cons_self)
  refine ⟨r, fA, ho, ⟨xs, hkd, hos⟩, hA, List.nodup_append.mpr ⟨nd1.2, nd2.1, fun x hx y hy => nd.2.2 x (List.mem_cons_of_mem _ hx) y (List.mem_append_left _ hy)⟩, ne, ?_⟩
  intro u t' fs' B fB ho' hB ndn sub
  have out3 : ∀ p ∈ fs' ++ fB, p ∉ f3 := fun p hp hp3 => by
    rcases List.mem_append.mp (sub p hp) with z | z
    · exact nd.2.2 p (List.mem_cons_of_mem _ z) p (List.mem_append_right _ hp3) rfl
    · exact nd2.2.2 p z p hp3 rfl
  refine ⟨fun p w z => ?_, R.f0, fun p w z => ?_, R.nw, hs, (a :: fs') ++ (fB ++ f3), h1, ⟨a :: fs', fB ++ f3, rfl, ho', ?_⟩, ?_, fun p hp => ?_⟩
  · rw [upd_ne (fun w => by subst w; rw [fa.2] at z; cases z)]
    exact R.g p w z
  · rw [upd_ne (fun w => by subst w; rw [fa.1] at z; cases z)]
    exact R.fh p w z
  · show Held K F (upd H a u) ((B ++ ts) ++ hs) (fB ++ f3)
    rw [List.append_assoc]
    exact Held.join hB (Held.mono (Ex.refl _) (upd_keep ne3) h5)
  · rw [List.cons_append, ← List.append_assoc, List.nodup_cons]
    refine ⟨fun hp => ?_, List.nodup_append.mpr ⟨ndn, nd2.2.1, fun x hx y hy z => out3 x hx (z ▸ hy)⟩⟩
    rcases List.mem_append.mp hp with z | z
    · exact ne a (sub a z) rfl
    · exact ne3 a z rfl
  · rcases List.mem_append.mp hp with z | z
    · rcases List.mem_cons.mp z with z | z
      · rw [z]; exact fa
      · rcases List.mem_append.mp (sub p (List.mem_append_left _ z)) with w | w
        · exact h4 p (List.mem_append_left _ (List.mem_cons_of_mem _ w))
        · exact h4 p (List.mem_append_right _ (List.mem_append_left _ w))
    · rcases List.mem_append.mp z with z | z
      · rcases List.mem_append.mp (sub p (List.mem_append_right _ z)) with w | w
        · exact h4 p (List.mem_append_left _ (List.mem_cons_of_mem _ w))
        · exact h4 p (List.mem_append_right _ (List.mem_append_left _ w))
      · exact h4 p (List.mem_append_right _ (List.mem_append_right _ z))
theorem held_one {v : V} {o : O} {fA : List Addr} (h : Held K F H [(v, o)] fA) : Own K F H o v fA := by
  obtain ⟨f1, f2, rfl, h1, h2⟩ := h
  rw [show f2 = [] from h2, List.append_nil]
  exact h1
theorem owns_set2 {os : List O} {xs : List V} {r fv : List Addr} {n : Nat} {o : O} {v : V} (h : Owns K F H os xs r) (hv : Own K F H o v fv) (nd : (r ++ fv).Nodup) (hn : n < os.length) : ∃ fs', Owns K F H (os.set n o) (xs.set n v) fs' ∧ fs'.Nodup ∧ ∀ p ∈ fs', p ∈ r ++ fv := by
  induction os generalizing xs r n with
  | nil => simp at hn
  | cons o0 os ih =>
    obtain ⟨y, t, f1, f2, rfl, rfl, h1, h2⟩ := h
    cases n with
    | zero =>
      have nd2 := List.nodup_append.mp nd
      have nd3 := List.nodup_append.mp nd2.1
      refine ⟨fv ++ f2, ⟨v, t, fv, f2, rfl, rfl, hv, h2⟩, List.nodup_append.mpr ⟨nd2.2.1, nd3.2.1, fun a ha b hb z => nd2.2.2 b (List.mem_append_right _ hb) a ha z.symm⟩, fun p hp => ?_⟩
      rcases List.mem_append.mp hp with z | z <;> simp [z]
    | succ n =>
      have nd' : (f2 ++ fv).Nodup := by
        rw [List.append_assoc] at nd
        exact (List.nodup_append.mp nd).2.1
      obtain ⟨fs', k1, k2, k3⟩ := ih h2 nd' (by simpa using hn)
      refine ⟨f1 ++ fs', ⟨y, t.set n v, f1, fs', rfl, rfl, h1, k1⟩, ?_, fun p hp => ?_⟩
      · rw [List.append_assoc] at nd
        have nd2 := List.nodup_append.mp nd
        exact List.nodup_append.mpr ⟨nd2.1, k2, fun a ha b hb => nd2.2.2 a ha b (k3 b hb)⟩
      · rcases List.mem_append.mp hp with z | z
        · simp [z]
        · have := k3 p z
          rw [List.append_assoc]
          exact List.mem_append_right _ this
theorem owns_snoc {os : List O} {xs : List V} {r fv : List Addr} {o : O} {v : V} (h : Owns K F H os xs r) (hv : Own K F H o v fv) : Owns K F H (os ++ [o]) (xs ++ [v]) (r ++ fv) :=
  h.append ⟨v, [], fv, [], rfl, by simp, hv, rfl, rfl⟩
theorem owns_erase {os : List O} {xs : List V} {r : List Addr} {n : Nat} {o : O} (h : Owns K F H os xs r) (hn : os[n]? = some o) : ∃ v f1 f0 f2, xs[n]? = some v ∧ r = f1 ++ (f0 ++ f2) ∧ Own K F H o v f0 ∧ Owns K F H (os.eraseIdx n) (xs.eraseIdx n) (f1 ++ f2) := by
  induction os generalizing xs r n with
  | nil => simp at hn
  | cons o0 os ih =>
    obtain ⟨y, t, f1, f2, rfl, rfl, h1, h2⟩ := h
    cases n with
    | zero =>
      have : o0 = o := by simpa using hn
      subst this
      exact ⟨y, [], f1, f2, rfl, rfl, h1, h2⟩
    | succ n =>
      obtain ⟨v, g1, g0, g2, k1, rfl, k3, k4⟩ := ih h2 (by simpa using hn)
      exact ⟨v, f1 ++ g1, g0, g2, by simpa using k1, by rw [List.append_assoc], k3, ⟨y, t.eraseIdx n, f1, g1 ++ g2, rfl, by rw [List.append_assoc], h1, k4⟩⟩
/-! ### dicts -/
theorem RE.tPut {a : Addr} {ks : List D} {vs : List O} {v y : V} {o : O} {k : D} (R : RE K c F H σ e ((.ref a, .dct ks vs) :: ((v, o) :: ts))) (hk : Rep K F k y) (ok : okKey ks k = true) (hl : ks.length < sizeLine) :
    ∃ u, XPut K H a y v (upd H a u) ∧ RE K c F (upd H a u) σ e ((.ref a, .dct (putKs ks k) (putVs ks k vs o)) :: ts) := by
  obtain ⟨r, fA, ho, _, hA, nd, ne, back⟩ := RE.openT (A := [(v, o)]) R rfl
  obtain ⟨a', h0, xs, r', ea, er, h1, hd, hos⟩ := ho
  cases ea
  cases er
  have hv := held_one hA
  obtain ⟨u, g, hd'⟩ := dict_put (v := v) hd hk ok R.fh h1 hl
  refine ⟨u, g, ?_⟩
  have mv : Owns K F (upd H a u) vs xs r := Owns.mono (Ex.refl _) _ _ _ (upd_keep fun p hp => ne p (List.mem_append_left _ hp)) hos
  have mo : Own K F (upd H a u) o v fA := Own.mono (Ex.refl _) _ _ _ (upd_keep fun p hp => ne p (List.mem_append_right _ hp)) hv
  have key : ∃ fs', Owns K F (upd H a u) (putVs ks k vs o) (putVs ks k xs v) fs' ∧ fs'.Nodup ∧ ∀ p ∈ fs', p ∈ r ++ fA := by
    unfold putVs
    cases hn : kix ks k with
    | some n =>
      have := kix_lt hn
      rw [dict_len hd, ← hos.length] at this
      exact owns_set2 mv mo nd this
    | none => exact ⟨_, owns_snoc mv mo, nd, fun p hp => hp⟩
  obtain ⟨fs', k1, k2, k3⟩ := key
  exact back u _ fs' [] [] ⟨a, u, _, fs', rfl, rfl, upd_same, hd', k1⟩ rfl (by simpa using k2) (by simpa using k3)
theorem RE.tDel {a : Addr} {ks : List D} {vs : List O} {y : V} {o : O} {k : D} {n : Nat} (R : RE K c F H σ e ((.ref a, .dct ks vs) :: ts)) (hk : Rep K F k y) (ok : okKey ks k = true) (hn : kix ks k = some n) (ho : vs[n]? = some o) :
    ∃ u v, XDel K H a y v (upd H a u) ∧ RE K c F (upd H a u) σ e ((.ref a, .dct (ks.eraseIdx n) (vs.eraseIdx n)) :: ((v, o) :: ts)) := by
  obtain ⟨r, fA, how, _, hA, nd, ne, back⟩ := RE.openT (A := []) R rfl
  obtain ⟨a', h0, xs, r', ea, er, h1, hd, hos⟩ := how
  cases ea
  cases er
  have eA : fA = [] := hA
  subst eA
  obtain ⟨v, f1, f0, f2, hx, rfl, hov, hos2⟩ := owns_erase hos ho
  obtain ⟨u, g, hd'⟩ := dict_del hd hk ok R.fh h1 hn hx
  have ne' : ∀ p ∈ f1 ++ (f0 ++ f2), p ≠ a := fun p hp => ne p (by simpa using hp)
  refine ⟨u, v, g, back u _ (f1 ++ f2) [(v, o)] f0 ⟨a, u, _, f1 ++ f2, rfl, rfl, upd_same, hd', Owns.mono (Ex.refl _) _ _ _ (upd_keep fun p hp => ne' p ?_) hos2⟩ ⟨f0, [], by simp, Own.mono (Ex.refl _) _ _ _ (upd_keep fun p hp => ne' p (by simp [hp])) hov, rfl⟩ ?_ fun p hp => ?_⟩
  · rcases List.mem_append.mp hp with z | z <;> simp [z]
  · have nd' : (f1 ++ (f0 ++ f2)).Nodup := by simpa using nd
    have pm : (f1 ++ (f0 ++ f2)).Perm ((f1 ++ f2) ++ f0) := by
      rw [List.append_assoc]
      exact List.Perm.append_left f1 List.perm_append_comm
    exact pm.nodup_iff.mp nd'
  · simp only [List.mem_append] at hp
    simp only [List.append_nil, List.mem_append]
    rcases hp with (z | z) | z <;> simp [z]
/-! ### lists -/
theorem RE.tSet {a : Addr} {vs : List O} {v : V} {o : O} {n : Nat} (R : RE K c F H σ e ((.ref a, .lst vs) :: ((v, o) :: ts))) (hn : n < vs.length) :
    ∃ xs, H a = some (.lst xs) ∧ vs.length = xs.length ∧ RE K c F (upd H a (.lst (xs.set n v))) σ e ((.ref a, .lst (vs.set n o)) :: ts) := by
  obtain ⟨r, fA, ho, _, hA, nd, ne, back⟩ := RE.openT (A := [(v, o)]) R rfl
  obtain ⟨a', xs, r', ea, er, h1, hos⟩ := ho
  cases ea
  cases er
  have hv := held_one hA
  refine ⟨xs, h1, hos.length, ?_⟩
  have mv : Owns K F (upd H a (.lst (xs.set n v))) vs xs r := Owns.mono (Ex.refl _) _ _ _ (upd_keep fun p hp => ne p (List.mem_append_left _ hp)) hos
  have mo : Own K F (upd H a (.lst (xs.set n v))) o v fA := Own.mono (Ex.refl _) _ _ _ (upd_keep fun p hp => ne p (List.mem_append_right _ hp)) hv
  obtain ⟨fs', k1, k2, k3⟩ := owns_set2 mv mo nd hn
  exact back _ _ fs' [] [] ⟨a, _, fs', rfl, rfl, upd_same, k1⟩ rfl (by simpa using k2) (by simpa using k3)
theorem RE.tPop {a : Addr} {vs : List O} {o : O} (R : RE K c F H σ e ((.ref a, .lst vs) :: ts)) (hn : vs[vs.length - 1]? = some o) :
    ∃ xs v, H a = some (.lst xs) ∧ xs[xs.length - 1]? = some v ∧ RE K c F (upd H a (.lst xs.dropLast)) σ e ((.ref a, .lst vs.dropLast) :: ((v, o) :: ts)) := by
  obtain ⟨r, fA, ho, _, hA, nd, ne, back⟩ := RE.openT (A := []) R rfl
  obtain ⟨a', xs, r', ea, er, h1, hos⟩ := ho
  cases ea
  cases er
  have eA : fA = [] := hA
  subst eA
  have hl := hos.length
  obtain ⟨v, f1, f0, f2, hx, rfl, hov, hos2⟩ := owns_erase hos hn
  rw [hl] at hx hos2
  have ne' : ∀ p ∈ f1 ++ (f0 ++ f2), p ≠ a := fun p hp => ne p (by simpa using hp)
  have e1 : xs.dropLast = xs.eraseIdx (xs.length - 1) := by rw [List.eraseIdx_eq_dropLast]; rw [← hl]; have := (List.getElem?_eq_some_iff.mp hn).1; omega
  have e2 : vs.dropLast = vs.eraseIdx (xs.length - 1) := by rw [← hl, List.eraseIdx_eq_dropLast]; have := (List.getElem?_eq_some_iff.mp hn).1; omega
  refine ⟨xs, v, h1, hx, ?_⟩
  rw [e1, e2]
  refine back _ _ (f1 ++ f2) [(v, o)] f0 ⟨a, _, f1 ++ f2, rfl, rfl, upd_same, Owns.mono (Ex.refl _) _ _ _ (upd_keep fun p hp => ne' p ?_) hos2⟩ ⟨f0, [], by simp, Own.mono (Ex.refl _) _ _ _ (upd_keep fun p hp => ne' p (by simp [hp])) hov, rfl⟩ ?_ fun p hp => ?_
  · rcases List.mem_append.mp hp with z | z <;> simp [z]
  · have nd' : (f1 ++ (f0 ++ f2)).Nodup := by simpa using nd
    have pm : (f1 ++ (f0 ++ f2)).Perm ((f1 ++ f2) ++ f0) := by
      rw [List.append_assoc]
      exact List.Perm.append_left f1 List.perm_append_comm
    exact pm.nodup_iff.mp nd'
  · simp only [List.mem_append] at hp
    simp only [List.append_nil, List.mem_append]
    rcases hp with (z | z) | z <;> simp [z]
theorem RE.tExt {a b : Addr} {vs ws : List O} (R : RE K c F H σ e ((.ref a, .lst vs) :: ((.ref b, .lst ws) :: ts))) :
    ∃ xs zs, H a = some (.lst xs) ∧ H b = some (.lst zs) ∧ vs.length = xs.length ∧ ws.length = zs.length ∧ RE K c F (upd H a (.lst (xs ++ zs))) σ e ((.ref a, .lst (vs ++ ws)) :: ts) := by
  obtain ⟨r, fA, ho, _, hA, nd, ne, back⟩ := RE.openT (A := [(.ref b, .lst ws)]) R rfl
  obtain ⟨a', xs, r', ea, er, h1, hos⟩ := ho
  cases ea
  cases er
  obtain ⟨b', zs, r2, eb, rfl, h2, hos2⟩ := held_one hA
  cases eb
  refine ⟨xs, zs, h1, h2, hos.length, hos2.length, ?_⟩
  have mv : Owns K F (upd H a (.lst (xs ++ zs))) vs xs r := Owns.mono (Ex.refl _) _ _ _ (upd_keep fun p hp => ne p (List.mem_append_left _ hp)) hos
  have mo : Owns K F (upd H a (.lst (xs ++ zs))) ws zs r2 := Owns.mono (Ex.refl _) _ _ _ (upd_keep fun p hp => ne p (by simp [hp])) hos2
  have sub : (r ++ r2).Sublist (r ++ b :: r2) := List.Sublist.append_left (List.sublist_cons_self _ _) _
  exact back _ _ (r ++ r2) [] [] ⟨a, _, r ++ r2, rfl, rfl, upd_same, mv.append mo⟩ rfl (by simpa using nd.sublist sub) (by
    intro p hp
    have : p ∈ r ++ r2 := by simpa using hp
    exact sub.subset this)
/-! ### fields -/
def putN (ns : List Str) (f : Str) : List Str := match fix ns f with
  | some _ => ns
  | none => ns ++ [f]
def putW {α : Type} (ns : List Str) (f : Str) (xs : List α) (v : α) : List α := match fix ns f with
  | some n => xs.set n v
  | none => xs ++ [v]
theorem putF_zip {f : Str} {v : V} : ∀ {ns : List Str} {xs : List V}, ns.length = xs.length → putF f v (ns.zip xs) = (putN ns f).zip (putW ns f xs v) ∧ (putN ns f).length = (putW ns f xs v).length
  | [], [], _ => ⟨rfl, rfl⟩
  | [], _ :: _, h => by simp at h
  | _ :: _, [], h => by simp at h
  | m :: ns, x :: xs, h => by
    obtain ⟨k1, k2⟩ := putF_zip (f := f) (v := v) (ns := ns) (xs := xs) (by simpa using h)
    rw [List.zip_cons_cons, putF]
    unfold putN putW fix at *
    rw [List.findIdx?_cons]
    by_cases q : m = f
    · rw [if_pos q]
      have : (f == m) = true := by rw [q]; exact beq_self_eq_true f
      rw [this]
      refine ⟨?_, by simpa using h⟩
      simp
    · rw [if_neg q]
      have : (f == m) = false := by rw [beq_eq_false_iff_ne]; exact fun z => q z.symm
      rw [this]
      cases h3 : (ns.findIdx? fun n => f == n) with
      | none =>
        rw [h3] at k1 k2
        refine ⟨?_, by simpa using k2⟩
        rw [k1]
        rfl
      | some n =>
        rw [h3] at k1 k2
        refine ⟨?_, by simpa using k2⟩
        rw [k1]
        rfl
theorem RE.tFld {a C : Addr} {ns : List Str} {vs : List O} {v : V} {o : O} {f : Str} (R : RE K c F H σ e ((.ref a, .ins C ns vs) :: ((v, o) :: ts))) :
    ∃ dx fs, H a = some (.ins C dx fs) ∧ fs.length = vs.length ∧ RE K c F (upd H a (.ins C dx (putF f v fs))) σ e ((.ref a, .ins C (putN ns f) (putW ns f vs o)) :: ts) := by
  obtain ⟨r, fA, ho, _, hA, nd, ne, back⟩ := RE.openT (A := [(v, o)]) R rfl
  obtain ⟨a', dx, xs, r', ea, er, h1, h0, hos⟩ := ho
  cases ea
  cases er
  have hv := held_one hA
  obtain ⟨k1, k2⟩ := putF_zip (f := f) (v := v) h0
  refine ⟨dx, _, h1, by rw [List.length_zip, h0, hos.length, Nat.min_self], ?_⟩
  have mv : Owns K F (upd H a (.ins C dx (putF f v (ns.zip xs)))) vs xs r := Owns.mono (Ex.refl _) _ _ _ (upd_keep fun p hp => ne p (List.mem_append_left _ hp)) hos
  have mo : Own K F (upd H a (.ins C dx (putF f v (ns.zip xs)))) o v fA := Own.mono (Ex.refl _) _ _ _ (upd_keep fun p hp => ne p (List.mem_append_right _ hp)) hv
  have key : ∃ fs', Owns K F (upd H a (.ins C dx (putF f v (ns.zip xs)))) (putW ns f vs o) (putW ns f xs v) fs' ∧ fs'.Nodup ∧ ∀ p ∈ fs', p ∈ r ++ fA := by
    unfold putW
    cases hn : fix ns f with
    | some n =>
      have : n < ns.length := (List.findIdx?_eq_some_iff_findIdx_eq.mp hn).1
      rw [h0, ← hos.length] at this
      exact owns_set2 mv mo nd this
    | none => exact ⟨_, owns_snoc mv mo, nd, fun p hp => hp⟩
  obtain ⟨fs', q1, q2, q3⟩ := key
  exact back _ _ fs' [] [] ⟨a, dx, _, fs', rfl, rfl, by rw [upd_same, k1], k2, q1⟩ rfl (by simpa using q2) (by simpa using q3)
end
end DL

/-! DMA: statements over places. -/
namespace DL
open PySem PySem.Spec PyProof.Rows L2 Evl

def rSetX (K : KB) : TSet := fun o i v H Q => rSetL o i v H Q ∨ rXSet K o i v H Q
theorem set_anyX {X : Cx} (hu : X.A.units + 65 < cLine) : PSet X (rSetX X.B) := by
  intro pins s σ H o i v ov iv u Q I ro ri rv h
  rcases h with h | h
  · exact set_list pins s σ H o i v ov iv u Q I ro ri rv h
  · exact set_dictX (by omega) pins s σ H o i v ov iv u Q I ro ri rv h
/-- the rest of a statement behind a quiet expression -/
theorem AtS.q {K : KB} {W : WX} {α β : Type} {rel : Rel α β} {den : Den α} {f : α → SDen} {D : Ends} {c : Ctx} {F H : Hp} {σ : L2.St} {e : Env} {ts : List (V × O)} {Q' : β → Hp → Prop} (h : AtS K W (DL.sbind (dq den) f) D c F σ e ts H)
    (k : ∀ F1 H1 e1 a v, Ex F F1 → Ex H H1 → rel K c F1 H1 σ e1 ts a v → AtS K W (f a) D c F1 σ e1 ts H1 → Q' v H1) : At rel K W den c F σ e ts H Q' :=
  (h.sbind (rel := rel) (Q' := fun v H1 => Ex H H1 → Q' v H1) fun F1 H1 e1 a v ef hr q ee => k F1 H1 e1 a v ef ee hr q).toQ
theorem At.q {K : KB} {W : WX} {α β γ δ : Type} {rel : Rel α β} {rel2 : Rel γ δ} {den : Den α} {f : α → Den γ} {c : Ctx} {F H : Hp} {σ : L2.St} {e : Env} {ts : List (V × O)} {Q : δ → Hp → Prop} {Q' : β → Hp → Prop} (h : At rel2 K W (dbind (dq den) f) c F σ e ts H Q)
    (k : ∀ F1 H1 e1 a v, Ex F F1 → Ex H H1 → rel K c F1 H1 σ e1 ts a v → At rel2 K W (f a) c F1 σ e1 ts H1 Q → Q' v H1) : At rel K W den c F σ e ts H Q' :=
  (h.bind (rel := rel) (Q' := fun v H1 => Ex H H1 → Q' v H1) fun F1 H1 e1 a v ef hr q ee => k F1 H1 e1 a v ef ee hr q).toQ
/-! ### P[k] = e -/
def stP (o : O) (pl : Pl) (k : D) : SDen := fun e => match plO pl e with
  | some (.dct ks vs) => if okKey ks k = true ∧ ks.length < sizeLine then some (.nx true (plPut pl e (.dct (putKs ks k) (putVs ks k vs o)))) else none
  | some (.lst vs) => match k with
    | .int j => match ixN vs.length j with
      | some n => if n < vs.length then some (.nx true (plPut pl e (.lst (vs.set n o)))) else none
      | none => none
    | _ => none
  | _ => none
def sstP (dv : Den Rv) (dpl : Den Pl) (dk : Den D) : SDen := sbind dv fun rv => sbind (rvO rv) fun o => sbind dpl fun pl => sbind (dq dk) fun k => stP o pl k
section
variable {X : Cx} {W : WX} {a b ex : Expr} {pos p : Pos}
theorem ds_stP {dv : Den Rv} {dpl : Den Pl} {dk : Den D} (hu : X.A.units + 65 < cLine) (hv : DE X W ex dv) (ha : DPl X W a dpl) (hb : DI X W b dk)
    (hst : ∀ {te ta tb}, PE X ex te → PE X a ta → PE X b tb → PS X (.Assign [.Subscript a b p] ex pos) (tAsg te (gSub ta tb (rSetX X.B)))) : DS X W (.Assign [.Subscript a b p] ex pos) (sstP dv dpl dk) := ⟨ps_weak (hst hv.run ha.run hb.run) fun D0 σ H q => by
  obtain ⟨c, F, e, ts, R, q⟩ := q
  refine ⟨c, F, e, ts, R, q.tmp fun F1 H1 e1 o v ef R1 q1 => ⟨c, F1, e1, (v, o) :: ts, R1, ?_⟩⟩
  -- the temporary is kept while the place is found
  obtain ⟨r, hr, post⟩ := q1
  unfold sbind at hr
  cases hd : dpl e1 with
  | none => rw [hd] at hr; cases hr
  | some r1 =>
    rw [hd] at hr
    cases r1 with
    | err m e2 x =>
      cases hr
      exact ⟨_, hd, fun F' H' cls d ef' eh R' hx => post F' H' σ cls d ef' eh R'.drop hx⟩
    | ok m e2 pl =>
      refine ⟨_, hd, fun F2 H2 x ef2 eh2 hrel => ?_⟩
      obtain ⟨R2, v0, hv0, hw⟩ := hrel
      have q2 : AtS X.B W (sbind (dq dk) fun k => stP o pl k) D0 c F2 σ e2 ts H2 := AtS.more hr ef2 eh2 post
      refine ⟨c, F2, e2, (v, o) :: ts, R2, ?_⟩
      obtain ⟨r3, hr3, post3⟩ := q2
      unfold sbind dq at hr3
      cases hk : dk e2 with
      | none => rw [hk] at hr3; cases hr3
      | some r4 =>
        rw [hk] at hr3
        cases r4 with
        | err m4 e4 x4 =>
          cases hr3
          exact ⟨_, hk, fun F' H' cls d ef' eh R' hx => post3 F' H' σ cls d ef' eh R'.drop hx⟩
        | ok m4 e4 k =>
          cases m4 with
          | true => cases hr3
          | false =>
            refine ⟨_, hk, fun F4 H4 y ef4 eh4 hrk => ?_⟩
            have q4 : AtS X.B W (stP o pl k) D0 c F4 σ e4 ts H4 := AtS.more hr3 ef4 eh4 post3
            obtain ⟨R4, hrep⟩ := hrk
            obtain ⟨r5, hr5, post5⟩ := q4
            have hw4 := hw.mono (eh4 rfl)
            unfold stP at hr5
            split at hr5
            · rename_i ks vs hpl
              split at hr5
              · rename_i hok
                cases hr5
                obtain ⟨a, e5, rfl, R5, back⟩ := R4.outPl hpl hv0 hw4
                obtain ⟨u, g, R6⟩ := R5.tPut hrep hok.1 hok.2
                exact .inr ⟨a, _, rfl, g, post5 F4 _ σ (Ex.refl _) (fun z => by cases z) (back R6)⟩
              · cases hr5
            · rename_i vs hpl
              split at hr5
              · rename_i j
                split at hr5
                · rename_i n hn
                  split at hr5
                  · rename_i hlt
                    cases hr5
                    obtain ⟨a, e5, rfl, R5, back⟩ := R4.outPl hpl hv0 hw4
                    obtain ⟨xs, h1, hl, R6⟩ := R5.tSet hlt
                    exact .inl ⟨a, xs, j, n, rfl, hrep, h1, by rw [← hl]; exact hn, post5 F4 _ σ (Ex.refl _) (fun z => by cases z) (back R6)⟩
                  · cases hr5
                · cases hr5
              · cases hr5
            · cases hr5⟩
/-! ### del P[k] -/
def delP (pl : Pl) (k : D) : SDen := fun e => match plO pl e with
  | some (.dct ks vs) => if okKey ks k = true then (match kix ks k with
    | some n => match vs[n]? with
      | some _ => some (.nx true (plPut pl e (.dct (ks.eraseIdx n) (vs.eraseIdx n))))
      | none => none
    | none => none) else none
  | _ => none
def sdelP (dpl : Den Pl) (dk : Den D) : SDen := sbind dpl fun pl => sbind (dq dk) fun k => delP pl k
theorem ds_delP {dpl : Den Pl} {dk : Den D} (hu : X.A.units + 65 < cLine) (ha : DPl X W a dpl) (hb : DI X W b dk) : DS X W (.Delete [.Subscript a b p] pos) (sdelP dpl dk) := ⟨ps_weak (ps_xdel (by omega) ha.run hb.run) fun D0 σ H q => by
  obtain ⟨c, F, e, ts, R, q⟩ := q
  refine ⟨c, F, e, ts, R, q.sbind (rel := relP) fun F1 H1 e1 pl v ef hr q1 => ⟨c, F1, e1, ts, hr.1, q1.q (rel := relI) fun F2 H2 e2 k y ef2 ee hrk q2 => ?_⟩⟩
  obtain ⟨_, v0, hv0, hw⟩ := hr
  obtain ⟨R2, hrep⟩ := hrk
  obtain ⟨r, hr2, post⟩ := q2
  unfold delP at hr2
  split at hr2
  · rename_i ks vs hpl
    split at hr2
    · rename_i ok
      split at hr2
      · rename_i n hn
        split at hr2
        · rename_i o ho
          cases hr2
          obtain ⟨a, e5, rfl, R5, back⟩ := R2.outPl hpl hv0 (hw.mono ee)
          obtain ⟨u, z, g, R6⟩ := R5.tDel hrep ok hn ho
          have R7 := (R6.perm (ts' := (z, o) :: ((.ref a, _) :: ts)) (List.Perm.swap _ _ _)).drop
          exact ⟨a, z, _, rfl, g, post F2 _ σ (Ex.refl _) (fun z => by cases z) (back R7)⟩
        · cases hr2
      · cases hr2
    · cases hr2
  · cases hr2⟩
/-! ### P.pop(k) -/
def outR (m : Bool) (e : Env) (o : O) : Res Rv := match o with
  | .im d => .ok m e (.im d)
  | o => .ok m e (.new o)
theorem relR_out {K : KB} {c : Ctx} {F H : Hp} {σ : L2.St} {e : Env} {ts : List (V × O)} {v : V} {o : O} (R : RE K c F H σ e ((v, o) :: ts)) : ∃ rv, outR true e o = .ok true e rv ∧ relR K c F H σ e ts rv v := by
  cases o with
  | im d =>
    obtain ⟨fs, ho⟩ := R.temp
    exact ⟨.im d, rfl, R.drop, ho.2⟩
  | _ => exact ⟨_, rfl, R⟩
def isDct : O → Bool
  | .dct _ _ => true
  | _ => false
def popP (pl : Pl) (k : D) : Den Rv := fun e => match plO pl e with
  | some (.dct ks vs) => if okKey ks k = true then (match kix ks k with
    | some n => match vs[n]? with
      | some o => some (outR true (plPut pl e (.dct (ks.eraseIdx n) (vs.eraseIdx n))) o)
      | none => none
    | none => none) else none
  | _ => none
def dpopP (dpl : Den Pl) (das : Den (List D)) : Den Rv := dbind dpl fun pl e => match (plO pl e).map isDct with
  | some true => dbind (dq das) (fun as => match as with
    | [k] => popP pl k
    | [k, _] => popP pl k
    | _ => fun _ => none) e
  | _ => none
theorem de_popP {e0 : Expr} {es : List Expr} {dpl : Den Pl} {das : Den (List D)} (ha : DPl X W a dpl) (hb : DA X W (e0 :: es) das) (hpe : ∀ {to : TE} {t : TA}, PE X a to → PA X (e0 :: es) t → PE X ex (tXM X.B (rXPop X.B) to t)) : DE X W ex (dpopP dpl das) := ⟨pe_weak (hpe ha.run hb.run) fun σ H Q q => by
  obtain ⟨c, F, e, ts, R, q⟩ := q
  refine ⟨c, F, e, ts, R, q.bind (rel := relP) fun F1 H1 e1 pl v ef hr q1 => ?_⟩
  obtain ⟨R1, v0, hv0, hw⟩ := hr
  obtain ⟨r, hr2, post⟩ := q1
  dsimp only at hr2
  cases hpl : plO pl e1 with
  | none => rw [hpl] at hr2; cases hr2
  | some t =>
    rw [hpl] at hr2
    cases t with
    | dct ks vs =>
      have hr2 : dbind (dq das) (fun as => match as with
        | [k] => popP pl k
        | [k, _] => popP pl k
        | _ => fun _ => none) e1 = some r := hr2
      obtain ⟨a, fs, rfl, how⟩ := plO_own R1 hpl hv0 hw
      refine ⟨⟨a, rfl, ?_⟩, c, F1, e1, ts, R1, ?_⟩
      · obtain ⟨a', h', ys, r, ea, _, h1, h0, h2⟩ := how
        cases ea
        rcases h0 with ⟨kvs, e3, _⟩ | ⟨kvs, e3, _⟩
        · exact .inl ⟨kvs, by rw [h1, e3]⟩
        · exact .inr ⟨kvs, by rw [h1, e3]⟩
      refine At.q (rel2 := relR) (Q := Q) ⟨r, hr2, post⟩ (rel := relA) fun F2 H2 e2 as us ef2 ee hrk q2 => ?_
      obtain ⟨R2, hrs⟩ := hrk
      have key : ∀ {k : D} {y : V}, Rep X.B F2 k y → At relR X.B W (popP pl k) c F2 σ e2 ts H2 Q → ∃ z H3, XDel X.B H2 a y z H3 ∧ Q z H3 := by
        intro k y hrep q3
        obtain ⟨r3, hr3, post3⟩ := q3
        unfold popP at hr3
        split at hr3
        · rename_i ks vs hpl2
          split at hr3
          · rename_i ok
            split at hr3
            · rename_i n hn
              split at hr3
              · rename_i o ho
                obtain ⟨a2, e5, ea, R5, back⟩ := R2.outPl hpl2 hv0 (hw.mono ee)
                cases ea
                obtain ⟨u, z, g, R6⟩ := R5.tDel hrep ok hn ho
                obtain ⟨rv, e6, hrr⟩ := relR_out (back R6)
                rw [e6] at hr3
                cases hr3
                exact ⟨z, _, g, post3 F2 _ z (Ex.refl _) (fun z => by cases z) hrr⟩
              · cases hr3
            · cases hr3
          · cases hr3
        · cases hr3
      split at q2
      · obtain ⟨y, rfl, hy⟩ := reps1 hrs
        obtain ⟨z, H3, g, qz⟩ := key hy q2
        exact ⟨a, z, H3, rfl, .inl ⟨y, rfl, g, qz⟩⟩
      · obtain ⟨y, w, rfl, hy, hw2⟩ := reps2 hrs
        obtain ⟨z, H3, g, qz⟩ := key hy q2
        exact ⟨a, z, H3, rfl, .inr ⟨y, w, rfl, g, qz⟩⟩
      · obtain ⟨_, z, _⟩ := q2
        cases z
    | _ => cases hr2⟩
/-! ### P.pop() -/
def dpopLP (dpl : Den Pl) : Den Rv := dbind dpl fun pl e => match plO pl e with
  | some (.lst vs) => match vs[vs.length - 1]? with
    | some o => some (outR true (plPut pl e (.lst vs.dropLast)) o)
    | none => none
  | _ => none
theorem de_popLP {dpl : Den Pl} (ha : DPl X W a dpl) (hpe : ∀ {to : TE}, PE X a to → PE X ex (tBM0 X.B "list" rPop to)) : DE X W ex (dpopLP dpl) := ⟨pe_weak (hpe ha.run) fun σ H Q q => by
  obtain ⟨c, F, e, ts, R, q⟩ := q
  refine ⟨c, F, e, ts, R, q.bind (rel := relP) fun F1 H1 e1 pl v ef hr q1 => ?_⟩
  obtain ⟨R1, v0, hv0, hw⟩ := hr
  obtain ⟨r, hr2, post⟩ := q1
  dsimp only at hr2
  split at hr2
  · rename_i vs hpl
    split at hr2
    · rename_i o ho
      obtain ⟨a, e5, rfl, R5, back⟩ := R1.outPl hpl hv0 hw
      obtain ⟨xs, z, h1, hz, R6⟩ := R5.tPop ho
      obtain ⟨rv, e6, hrr⟩ := relR_out (back R6)
      rw [e6] at hr2
      cases hr2
      exact ⟨.inl ⟨rfl, xs, SqL.of h1⟩, a, xs, z, rfl, rfl, h1, hz, post F1 _ z (Ex.refl _) (fun z => by cases z) hrr⟩
    · cases hr2
  · cases hr2⟩
/-! ### P.append(e) -/
def appP' (pl : Pl) (d : D) : Den Rv := fun e => match plO pl e with
  | some (.lst vs) => if vs.length < sizeLine then some (.ok true (plPut pl e (.lst (vs ++ [.im d]))) (.im .non)) else none
  | _ => none
def isLst : O → Bool
  | .lst _ => true
  | _ => false
def dappP (dpl : Den Pl) (dd : Den D) : Den Rv := dbind dpl fun pl e => match (plO pl e).map isLst with
  | some true => dbind (dq dd) (fun d => appP' pl d) e
  | _ => none
theorem de_appP {dpl : Den Pl} {dd : Den D} (ha : DPl X W a dpl) (hb : DI X W b dd) (hpe : ∀ {to : TE} {t : TA}, PE X a to → PA X [b] t → PE X ex (tBM X.B "list" rAppend to t)) (hs0 : starEach (b :: []) X.env = (false, eval b X.env) :: starEach [] X.env := by rfl) : DE X W ex (dappP dpl dd) := ⟨pe_weak (hpe ha.run (pa_cons hb.run pa_nil hs0)) fun σ H Q q => by
  obtain ⟨c, F, e, ts, R, q⟩ := q
  refine ⟨c, F, e, ts, R, q.bind (rel := relP) fun F1 H1 e1 pl v ef hr q1 => ?_⟩
  obtain ⟨R1, v0, hv0, hw⟩ := hr
  obtain ⟨r, hr2, post⟩ := q1
  dsimp only at hr2
  cases hpl : plO pl e1 with
  | none => rw [hpl] at hr2; cases hr2
  | some t =>
    rw [hpl] at hr2
    cases t with
    | lst vs =>
      have hr2 : dbind (dq dd) (fun d => appP' pl d) e1 = some r := hr2
      obtain ⟨a, fs, rfl, how⟩ := plO_own R1 hpl hv0 hw
      refine ⟨.inl ⟨rfl, ?_⟩, c, F1, e1, ts, R1, ?_⟩
      · obtain ⟨a', ys, r, ea, _, h1, h2⟩ := how
        cases ea
        exact ⟨ys, SqL.of h1⟩
      refine At.q (rel2 := relR) (Q := Q) ⟨r, hr2, post⟩ (rel := relI) fun F2 H2 e2 d y ef2 ee hrk q2 => ?_
      obtain ⟨R2, hrep⟩ := hrk
      obtain ⟨r3, hr3, post3⟩ := q2
      unfold appP' at hr3
      split at hr3
      · rename_i vs hpl2
        split at hr3
        · rename_i hl
          cases hr3
          obtain ⟨a2, e5, ea, R5, back⟩ := (R2.imT hrep).outPl hpl2 hv0 (hw.mono ee)
          cases ea
          obtain ⟨l, xs, el, h1, hlen, R6⟩ := R5.push
          cases el
          exact ⟨a, xs, y, rfl, rfl, h1, by rw [← hlen]; exact hl, post3 F2 _ .non (Ex.refl _) (fun z => by cases z) ⟨back R6, rfl⟩⟩
        · cases hr3
      · cases hr3
    | _ => cases hr2⟩
/-! ### P.extend(e), e a new list -/
def extP (pl : Pl) (rv : Rv) : Den Rv := fun e => match rv with
  | .new (.lst ws) => match plO pl e with
    | some (.lst vs) => if vs.length + ws.length ≤ sizeLine then some (.ok true (plPut pl e (.lst (vs ++ ws))) (.im .non)) else none
    | _ => none
  | _ => none
def dextP (dpl : Den Pl) (dd : Den Rv) : Den Rv := dbind dpl fun pl e => match (plO pl e).map isLst with
  | some true => dbind (dq dd) (fun d => extP pl d) e
  | _ => none
theorem de_extP {dpl : Den Pl} {dd : Den Rv} (ha : DPl X W a dpl) (hb : DE X W b dd) (hpe : ∀ {to : TE} {t : TA}, PE X a to → PA X [b] t → PE X ex (tBM X.B "list" rExtend to t)) (hs0 : starEach (b :: []) X.env = (false, eval b X.env) :: starEach [] X.env := by rfl) : DE X W ex (dextP dpl dd) := ⟨pe_weak (hpe ha.run (pa_cons hb.run pa_nil hs0)) fun σ H Q q => by
  obtain ⟨c, F, e, ts, R, q⟩ := q
  refine ⟨c, F, e, ts, R, q.bind (rel := relP) fun F1 H1 e1 pl v ef hr q1 => ?_⟩
  obtain ⟨R1, v0, hv0, hw⟩ := hr
  obtain ⟨r, hr2, post⟩ := q1
  dsimp only at hr2
  cases hpl : plO pl e1 with
  | none => rw [hpl] at hr2; cases hr2
  | some t =>
    rw [hpl] at hr2
    cases t with
    | lst vs =>
      have hr2 : dbind (dq dd) (fun d => extP pl d) e1 = some r := hr2
      obtain ⟨a, fs, rfl, how⟩ := plO_own R1 hpl hv0 hw
      refine ⟨.inl ⟨rfl, ?_⟩, c, F1, e1, ts, R1, ?_⟩
      · obtain ⟨a', ys, r, ea, _, h1, h2⟩ := how
        cases ea
        exact ⟨ys, SqL.of h1⟩
      refine At.q (rel2 := relR) (Q := Q) ⟨r, hr2, post⟩ (rel := relR) fun F2 H2 e2 rv y ef2 ee hrk q2 => ?_
      obtain ⟨r3, hr3, post3⟩ := q2
      unfold extP at hr3
      split at hr3
      · rename_i ws
        have R2 : RE X.B c F2 H2 σ e2 ((y, .lst ws) :: ts) := hrk
        obtain ⟨f2, b2, _, _, eb, _⟩ := R2.temp
        subst eb
        split at hr3
        · rename_i vs hpl2
          split at hr3
          · rename_i hl
            cases hr3
            obtain ⟨a2, e5, ea, R5, back⟩ := R2.outPl hpl2 hv0 (hw.mono ee)
            cases ea
            obtain ⟨xs, zs, h1, h2, hl1, hl2, R6⟩ := R5.tExt
            exact ⟨a, b2, xs, zs, rfl, rfl, h1, h2, by rw [← hl1, ← hl2]; exact hl, post3 F2 _ .non (Ex.refl _) (fun z => by cases z) ⟨back R6, rfl⟩⟩
          · cases hr3
        · cases hr3
      · cases hr3
    | _ => cases hr2⟩
/-! ### P.f = e -/
def fldP (Cs : List Addr) (f : Str) (o : O) (pl : Pl) : SDen := fun e => match plO pl e with
  | some (.ins C ns vs) => if C ∈ Cs ∧ vs.length < 1000 then some (.nx true (plPut pl e (.ins C (putN ns f) (putW ns f vs o)))) else none
  | _ => none
def sfldP (dv : Den Rv) (dpl : Den Pl) (Cs : List Addr) (f : Str) : SDen := sbind dv fun rv => sbind (rvO rv) fun o => sbind dpl fun pl => fldP Cs f o pl
theorem ds_fldP {dv : Den Rv} {dpl : Den Pl} {Cs : List Addr} {f : Str} (hC : ∀ C ∈ Cs, Cls X.K C ∧ NoAttr X.K C f) (hv : DE X W ex dv) (ha : DPl X W a dpl)
    (hs : swapsWith ex (some (.Attribute a f p)) pos.line X.env = pure false := by rfl) : DS X W (.Assign [.Attribute a f p] ex pos) (sfldP dv dpl Cs f) := ⟨ps_weak (ps_fld ha.run hv.run hs) fun D0 σ H q => by
  obtain ⟨c, F, e, ts, R, q⟩ := q
  refine ⟨c, F, e, ts, R, q.tmp fun F1 H1 e1 o v ef R1 q1 => ⟨c, F1, e1, (v, o) :: ts, R1, ?_⟩⟩
  obtain ⟨r, hr, post⟩ := q1
  unfold sbind at hr
  cases hd : dpl e1 with
  | none => rw [hd] at hr; cases hr
  | some r1 =>
    rw [hd] at hr
    cases r1 with
    | err m e2 x =>
      cases hr
      exact ⟨_, hd, fun F' H' cls d ef' eh' R' hx => post F' H' σ cls d ef' eh' R'.drop hx⟩
    | ok m e2 pl =>
      refine ⟨_, hd, fun F2 H2 x ef2 eh2 hrel => ?_⟩
      obtain ⟨R2, v0, hv0, hw⟩ := hrel
      have q2 : AtS X.B W (fldP Cs f o pl) D0 c F2 σ e2 ts H2 := AtS.more hr ef2 eh2 post
      obtain ⟨r5, hr5, post5⟩ := q2
      unfold fldP at hr5
      split at hr5
      · rename_i C ns vs hpl
        split at hr5
        · rename_i hok
          cases hr5
          obtain ⟨a, e5, rfl, R5, back⟩ := R2.outPl hpl hv0 hw
          obtain ⟨dx, fs, h1, hl, R6⟩ := R5.tFld
          exact ⟨a, C, dx, fs, rfl, h1, (hC C hok.1).1, (hC C hok.1).2, by rw [hl]; exact hok.2, post5 F2 _ σ (Ex.refl _) (fun z => by cases z) (back R6)⟩
        · cases hr5
      · cases hr5⟩
end
end DL

/-! DMB: methods of what stands at a place; properties; operators of own classes; sorted. -/
namespace DL
open PySem PySem.Spec PyProof.Rows L2 Evl

/-! ### P.m(..) -/
def callP (pl : Pl) (n : Nat) (f : FDen) (ds : List D) : Den Rv := fun e => match plO pl e with
  | some t => if ds.length + 1 = n then (match f (t :: ds.map O.im) with
    | some (.ok m (t' :: _) (.im d)) => some (.ok m (plPut pl e t') (.im d))
    | some (.ok m (t' :: _) (.new o)) => some (.ok m (plPut pl e t') (.new o))
    | some (.err m (t' :: _) x) => some (.err m (plPut pl e t') x)
    | _ => none) else none
  | none => none
section
variable {K : KB} {c : Ctx} {F F' H H' : Hp} {σ : L2.St} {e : Env} {ts : List (V × O)}
theorem RE.shed : ∀ (vs : List V) (os : List O) {ts : List (V × O)}, RE K c F H σ e (vs.zip os ++ ts) → RE K c F H σ e ts
  | [], os, ts, R => R
  | v :: vs, [], ts, R => R
  | v :: vs, o :: os, ts, R => RE.shed vs os (RE.drop (t := (v, o)) R)
theorem RE.addIm : ∀ {ds : List D} {vs : List V} {ts : List (V × O)}, Reps K F ds vs → RE K c F H σ e ts → RE K c F H σ e (vs.zip (ds.map O.im) ++ ts)
  | [], vs, ts, h, R => by rw [show vs = [] from h]; exact R
  | d :: ds, vs, ts, h, R => by
    obtain ⟨x, r, rfl, h1, h2⟩ := h
    exact (RE.addIm h2 R).imT h1
theorem spD_callP {W : WX} {n : Nat} {f : FDen} {pl : Pl} {ds : List D} {vs : List V} {v v0 : V} {Q : VK} (R : RE K c F H σ e ts) (hv0 : σ[pl.1]? = some (some v0)) (hw : WalkTo K H v0 pl.2 v) (hr : Reps K F ds vs) (q : At relR K W (callP pl n f ds) c F σ e ts H Q) :
    spD K n f (v :: vs) H Q (fun cls d H' => W cls d σ H') := by
  obtain ⟨r, hr2, post⟩ := q
  unfold callP at hr2
  split at hr2
  · rename_i t hpl
    split at hr2
    · rename_i hn
      obtain ⟨a, e1, rfl, R1, back⟩ := R.outPl hpl hv0 hw
      have R2 : RE K c F H σ e1 ((V.ref a :: vs).zip (t :: ds.map O.im) ++ ts) := (RE.addIm hr R1).perm (by
        show (vs.zip (ds.map O.im) ++ (V.ref a, t) :: ts).Perm ((V.ref a, t) :: (vs.zip (ds.map O.im) ++ ts))
        exact List.perm_middle)
      have hlv : (V.ref a :: vs).length = n := by rw [List.length_cons, ← hr.length]; exact hn
      have hlo : (t :: ds.map O.im).length = n := by rw [List.length_cons, List.length_map]; exact hn
      cases hf : f (t :: ds.map O.im) with
      | none => rw [hf] at hr2; cases hr2
      | some fr =>
        rw [hf] at hr2
        refine R2.callee2 hlv hlo hf ?_
        cases fr with
        | ok m os' rv =>
          cases os' with
          | nil => cases rv <;> cases hr2
          | cons t' os' =>
            cases rv with
            | im d =>
              cases hr2
              intro F' H' w ef eh hk R3 hrep
              have R4 : RE K c F' H' σ e1 ((V.ref a, t') :: (vs.zip os' ++ ts)) := R3
              refine post F' H' w ef eh ⟨(RE.shed vs os' (back R4)), hrep⟩
            | new o =>
              cases hr2
              intro F' H' w ef eh hk R3 hrep
              have R4 : RE K c F' H' σ e1 ((V.ref a, t') :: (vs.zip os' ++ ((w, o) :: ts))) := R3.perm (by
                show ((w, o) :: ((V.ref a, t') :: (vs.zip os' ++ ts))).Perm _
                exact (List.Perm.swap _ _ _).trans (List.Perm.cons _ List.perm_middle.symm))
              exact post F' H' w ef eh (RE.shed vs os' (back R4))
        | err m os' x =>
          cases os' with
          | nil => cases hr2
          | cons t' os' =>
            cases hr2
            intro F' H' cls d ef eh hk R3 hx
            have R4 : RE K c F' H' σ e1 ((V.ref a, t') :: (vs.zip os' ++ ts)) := R3
            exact post F' H' cls d ef eh (RE.shed vs os' (back R4)) hx
    · cases hr2
  · cases hr2
end
def hasC (C : Addr) (m : Str) (o : Option O) : Bool := match o with
  | some (.ins C' ns os) => decide (C' = C) && ((ns.zip os).lookup m).isNone
  | _ => false
def dmethP (C : Addr) (m : Str) (n : Nat) (f : FDen) (dpl : Den Pl) (das : Den (List D)) (dd : List D) : Den Rv := dbind dpl fun pl e => if hasC C m (plO pl e) = true then (dbind (dq das) fun ds => callP pl n f (ds ++ dd)) e else none
section
variable {X : Cx} {W : WX} {a : Expr} {es : List Expr} {pos p apos : Pos} {m : Str} {k : Nat} {f C : Addr} {fd : FuncData} {ps : List Str} {fn : FDen} {dd : List D} {dvs : List V} {dl : List Value}
theorem reps_app {K : KB} {F : Hp} {ds es : List D} {xs ys : List V} (h : Reps K F ds xs) (h' : Reps K F es ys) : Reps K F (ds ++ es) (xs ++ ys) := h.append h'
theorem methP_rd {n : Nat} {dpl : Den Pl} {das : Den (List D)} (hdd : Dfl X.B dd dvs) {t : TA} (ht : ∀ σ H Q, rd relA X.B W das σ H Q → t σ H Q) {σ : L2.St} {H : Hp} {Q : VK} (q : rd relR X.B W (dmethP C m n fn dpl das dd) σ H Q) :
    tMethSD C m (spD X.B n fn) dvs (WE W) (rd relP X.B W dpl) t σ H Q := by
  obtain ⟨c, F, e, ts, R, q⟩ := q
  refine ⟨c, F, e, ts, R, q.bind (rel := relP) fun F1 H1 e1 pl v ef hr q1 => ?_⟩
  obtain ⟨R1, v0, hv0, hw⟩ := hr
  obtain ⟨r, hr2, post⟩ := q1
  dsimp only at hr2
  split at hr2
  · rename_i hc
    cases hpl : plO pl e1 with
    | none => rw [hpl] at hc; cases hc
    | some t' =>
      rw [hpl] at hc
      cases t' with
      | ins C' ns os =>
        unfold hasC at hc
        dsimp only at hc
        rw [Bool.and_eq_true] at hc
        obtain ⟨h1, h2⟩ := hc
        have eC := of_decide_eq_true h1
        subst eC
        obtain ⟨a, fs, rfl, how⟩ := plO_own R1 hpl hv0 hw
        obtain ⟨a', dx, xs, rr, ea, _, h3, h4, h5⟩ := how
        cases ea
        refine ⟨a, dx, _, rfl, h3, lookup_none h5.length h2, ht _ _ _ ⟨c, F1, e1, ts, R1, At.q (rel2 := relR) (Q := Q) ⟨r, hr2, post⟩ (rel := relA) fun F2 H2 e2 ds us ef2 ee hrk q2 => ?_⟩⟩
        obtain ⟨R2, hrs⟩ := hrk
        exact spD_callP R2 hv0 (hw.mono ee) (hrs.append (hdd F2)) q2
      | _ => cases hc
  · cases hr2
theorem de_methP {n : Nat} {dpl : Den Pl} {das : Den (List D)} {o : Expr} {pl : Sem Bool} (hda : DPl X W o dpl) (cl : Cls X.K C) (hm : Meth X.K C m f) (Fn : FnOk X.prog X.w X.K X.mg X.base (L2.CX X.prog X.w) k f fd ps (spD X.B n fn)) (tk : Takes X W) (hr : Room k X.A) (hb : Binds X.K fd ps dl) (hd : Vals dvs dl) (hdd : Dfl X.B dd dvs)
    (ha : DA X W (a :: es) das) (hst : starEach (a :: es) X.env = (false, eval a X.env) :: starEach es X.env := by rfl) (hpl : (backTo pos (starEach es X.env)).any (·.1) = false := by rfl)
    (ht : eval (.Call (.Attribute o m apos) (a :: es) [] pos) X.env = (do
      let ov ← eval o X.env
      standAt apos.atName
      let (f, first) ← holding [ov] (getMethod ov m pl)
      callWith pos f first (backTo pos (starEach (a :: es) X.env)) (backToKw pos (keywordEach [] X.env))) := by rfl) :
    DE X W (.Call (.Attribute o m apos) (a :: es) [] pos) (dmethP C m n fn dpl das dd) :=
  ⟨pe_weak (pe_methSD hda.run cl hm Fn hr hb hd (fun σ => passAt tk σ) ha.run hst hpl ht) fun σ H Q q => methP_rd hdd (fun _ _ _ z => z) q⟩
theorem de_methP0 {n : Nat} {dpl : Den Pl} {o : Expr} {pl : Sem Bool} (hda : DPl X W o dpl) (cl : Cls X.K C) (hm : Meth X.K C m f) (Fn : FnOk X.prog X.w X.K X.mg X.base (L2.CX X.prog X.w) k f fd ps (spD X.B n fn)) (tk : Takes X W) (hr : Room k X.A) (hb : Binds X.K fd ps dl) (hd : Vals dvs dl) (hdd : Dfl X.B dd dvs)
    (ht : eval (.Call (.Attribute o m apos) [] [] pos) X.env = (do
      let ov ← eval o X.env
      standAt apos.atName
      let (f, first) ← holding [ov] (getMethod ov m pl)
      callWith pos f first (backTo pos (starEach [] X.env)) (backToKw pos (keywordEach [] X.env))) := by rfl) :
    DE X W (.Call (.Attribute o m apos) [] [] pos) (dmethP C m n fn dpl (dpure []) dd) :=
  ⟨pe_weak (pe_methSD0 hda.run cl hm Fn hr hb hd (fun σ => passAt tk σ) ht) fun σ H Q q => methP_rd hdd (fun σ H Q z => by
    obtain ⟨c, F, e, ts, R, q⟩ := z
    exact At.pure q F H [] (Ex.refl _) (Ex.refl _) ⟨R, rfl⟩) q⟩
end
end DL

/-! DMC: own classes: walked over, operators, properties. -/
namespace DL
open PySem PySem.Spec PyProof.Rows L2 Evl

/-! ### an own __iter__ that hands a tuple's iterator back -/
/-- a def run here, what it promises may hang on where the heap ends -/
theorem run_here {CX : CXT} {P : Program} {w : World} {K : PySem.W.Frag} {mg : Str → Option Value} {base : Heap} {k : Nat} {f : Addr} {name qual : Str} {params : Arguments} {body : List Stmt} {scope : Scope} {dV kV doc pm cdv ct oc : Value} {an od : Option Addr}
    {osl : Array (Option Value)} {N ps : List Str} (lk : K.lookup f = some ⟨oc, od, .func (PySem.W.fnOf name qual params body scope dV kV doc pm an cdv ct), osl⟩) (hcd : PySem.W.codeIn K cdv qual = true) (S : FnScope N ps scope)
    {A : Around} {outer : List PySem.Env} {s : Shared} {H : Hp} {args : Args} {us : List Value} {vs : List V} {Q : VK} {E : XK} (hr : Room (k + 1) A) (e0 : Env0 P w K mg base A outer s H) (hb : BindsTo s (PySem.W.fnOf name qual params body scope dV kV doc pm an cdv ct) args (ps.zip us)) (r : Vals vs us) (hl : vs.length = ps.length)
    (hbody : ∃ t, PSs (cxOf CX P w K mg base N qual scope f cdv A outer s H E) body t ∧ t { nx := fun _ H' => Q .non H', rt := Q } (start N vs) H) :
    codeAny (model P w) A (.call (.ref f) args) (CR CX outer P w H s Q E) s := by
  have KX : K.In s.heap := e0.mod.kin.keeps fun b o e => (e0.bs b o e).1
  have lim : s.heap.NoLimit := e0.mod.nolimit.keeps fun b o e => (e0.bs b o e).1
  have hkind : ∀ y ∈ ps.zip us, scope.names.lookup y.1 = some .local ∨ (scope.names.lookup y.1 = some .cell ∧ ((cellsFrom (s.heap.objs.size + 1) scope.names []).lookup y.1).isSome = true) := fun ⟨n, v⟩ hy => by
    rcases S.par n (List.of_mem_zip hy).1 with q | q
    · exact .inl q
    · exact .inr ⟨q, PySem.W.cellsFrom_some _ _ _ (.inl q)⟩
  refine codeAny_call_function hr.depth (KX _ _ lk) rfl S.co S.gen rfl (PySem.W.codeRec_of KX hcd) (hb _ _ _ _ ?_)
  refine wpAny_newFunctionEnv_cells S.kind hkind fun env he s1 x => ?_
  subst he
  refine ⟨lim.keeps x.toInCall.keep, codeAny_func ?_⟩
  obtain ⟨t, ht, hq⟩ := hbody
  have I : Inv (cxOf CX P w K mg base N qual scope f cdv A outer s H E) [] (start N vs) H s1 := inv_start S hr.hd e0 hl r x
  refine wpAny_mono (ht.run [] s1 (start N vs) H _ I hq) (fun fl s' hs => ?_) fun e s' hs => hs
  have fin : ∀ {σ' : L2.St} {H' : Hp} {v : V} {u : Value}, Inv (cxOf CX P w K mg base N qual scope f cdv A outer s H E) [] σ' H' s' → RelV v u → Q v H' → CE outer P w H s Q u s' :=
    fun {σ' H' v u} J rv q => ⟨v, H', J.os, J.bare, J.base, J.hok, rv, q⟩
  cases fl with
  | ret u =>
    obtain ⟨v, σ', H', J, rv, q⟩ := hs
    exact fin J rv q
  | next =>
    obtain ⟨σ', H', J, q⟩ := hs
    exact fin (v := V.non) (u := Value.none) J rfl q
  | brk =>
    obtain ⟨_, _, _, q⟩ := hs
    exact False.elim q
  | cont =>
    obtain ⟨_, _, _, q⟩ := hs
    exact False.elim q
def ItT (t it : Addr) (i : Nat) : HO := .ext fun h => h.IsTupleIter it t i
theorem call_iterT {X : Cx} : CallR X (.builtin "iter") (fun xs H Q => ∃ t zs, xs = [.ref t] ∧ SqT X.K H t zs ∧ ∀ it, H it = none → X.s_0.heap.objs.size ≤ it → Q (.ref it) (upd H it (ItT t it 0))) := by
  intro pins s σ H xs us Q I r h
  obtain ⟨t, zs, rfl, hq, q⟩ := h
  obtain ⟨u, rfl, ru⟩ := vals1 r
  cases ru
  obtain ⟨its, rv, pl, hz⟩ := I.tuple hq
  refine Calls.call_function_entry (by decide +kernel) (by decide +kernel) PySem.W.kdk_entry_iter (PySem.W.kdk_args_iter _) ?_
  unfold Builtin.«iter»
  refine wpAny_bind (m := someArgs "iter" 1 2 _) (wpAny_of_eq (a := [Value.ref t]) (by first | rfl | kernel_rfl!) ?_)
  show wpAny _ _ (pyIter (.ref t) >>= _) _ _ _
  refine wpAny_bind (wpAny_pyIter_tuple (show s.heap.IsTuple t its.toArray from pl) ?_)
  refine wpAny_pure ⟨_, rfl, .ref s.heap.objs.size, _, I.laid (t' := s.toks) (o := ItT t s.heap.objs.size 0) (fun b u e => Heap.get?_push_of_some _ e) (Nat.le_refl _) ?_, rfl, q _ (I.hok.fresh (Nat.le_refl _)) I.sz⟩
  have st : (s.heap.push { cls := .type "tuple_iterator", data := .fields #[.ref t, .int 0 0] }).IsTupleIter s.heap.objs.size t 0 := ⟨_, Heap.get?_push_size _ rfl, rfl, rfl⟩
  exact ⟨st, ⟨_, Heap.get?_push_size _ rfl⟩, fun h1 h2 ⟨o, e, c, d⟩ k => ⟨o, k o e, c, d⟩⟩
def rIterT (X : Cx) : List V → Hp → VK → Prop := fun xs H Q => ∃ t zs, xs = [.ref t] ∧ SqT X.K H t zs ∧ ∀ it, H it = none → X.s_0.heap.objs.size ≤ it → Q (.ref it) (upd H it (ItT t it 0))
/-- the def of __iter__: return iter(self.fld) -/
structure ItFn (P : Program) (w : World) (K : PySem.W.Frag) (mg : Str → Option Value) (base : Heap) (C f : Addr) (fld : Str) : Prop where
  at_ : PySem.W.findIn K (.ref C) "__iter__" = some (some (.ref f))
  fn : PySem.W.isFn K (.ref f) = true
  cls : Cls K C
  nat : NoAttr K C fld
  ex : ∃ (x qual : Str) (st : Stmt) (fd : FuncData), Df K x qual st f fd ∧ FnScope ["self"] ["self"] (defScope st) ∧ Binds K fd ["self"] [] ∧ ∀ cdv A outer s H E,
    PSs (cxOf (L2.CX P w) P w K mg base ["self"] qual (defScope st) f cdv A outer s H E) (defBody st) (tRet (tCB (rIterT (cxOf (L2.CX P w) P w K mg base ["self"] qual (defScope st) f cdv A outer s H E)) (tCons (tFld K (tVar 0) fld) tNil)))
section
variable {X : Cx} {C f : Addr} {fld : Str}
theorem iter_call (T : ItFn X.prog X.w X.K X.mg X.base C f fld) (hr : Room 1 X.A) {pins : List (Addr × Obj)} {σ : L2.St} {H : Hp} {s : Shared} {a dx t : Addr} {fs : List (Str × V)} {zs : List V} (I : Inv X pins σ H s) (ea : H a = some (.ins C dx fs)) (hl : fs.lookup fld = some (.ref t)) (hz : SqT X.K H t zs) {R : Value → Shared → Prop}
    (h : ∀ it s', Inv X pins σ H s' → s'.heap.IsTupleIter it t 0 → FpOk X pins H it → R (.ref it) s') : wpAny (model X.prog X.w) X.A (call (.ref f) [.ref a]) R X.xe s := by
  obtain ⟨x, qual, st, fd, D, S, B, body⟩ := T.ex
  obtain ⟨oc, od, dV, kV, doc, pm, an, cdv, ct, osl, rfl, lk, hcd⟩ := D.ex
  have r1 : Vals [V.ref a] [Value.ref a] := .cons rfl .nil
  let Q : VK := fun v H' => ∃ it, v = .ref it ∧ s.heap.objs.size ≤ it ∧ H it = none ∧ H' = upd H it (ItT t it 0)
  refine wpAny_call (codeAny_mono (run_here (CX := L2.CX X.prog X.w) (mg := X.mg) (Q := Q) (E := fun _ _ _ => False) (us := [.ref a]) (vs := [.ref a]) lk hcd S hr I.env0 (by have := B s [.ref a] I.kIn rfl; simpa using this) r1 rfl ⟨_, body cdv X.A X.stack s H _, ?_⟩) fun r s' hq => ?_)
  · refine ⟨.ref a, rfl, a, C, dx, fs, .ref t, rfl, ea, T.cls, T.nat, hl, t, zs, rfl, hz, fun it hit hle => ⟨it, rfl, hle, hit, rfl⟩⟩
  · cases r with
    | error e => exact (passAt (takes0 (X := X.nox)) σ _ _ _ _ _ (I.wish _) hq).elim
    | ok fl =>
      cases fl with
      | ret u =>
        obtain ⟨v, H', I3, rv, it, ev, hle, hit, eH⟩ := I.after hq
        subst ev
        subst eH
        cases rv
        have e1 : (upd H it (ItT t it 0)) it = some (ItT t it 0) := upd_same
        have st := (I3.hok it _ e1).1
        have I4 := ItX.inv_drop I3 e1
        have f4 := ItX.inv_fp I3 e1 (Nat.le_trans I.sz hle)
        rw [ItX.dropH_upd hit] at I4 f4
        exact h it s' I4 st f4
      | next => exact False.elim hq
      | brk => exact False.elim hq
      | cont => exact False.elim hq
/-- what is walked: a list, a tuple, an instance of C -/
def iSeqC (K : KB) (C : Addr) (fld : Str) (tl : TE) : TI := fun σ H R => tl σ H fun x H1 => ∃ a, x = .ref a ∧ (((∃ xs, SqL K H1 a xs) ∧ R (Itl K a) H1) ∨ ((∃ xs, SqT K H1 a xs) ∧ R (Itt K a) H1) ∨
  ∃ dx fs t zs, H1 a = some (.ins C dx fs) ∧ fs.lookup fld = some (.ref t) ∧ SqT K H1 t zs ∧ R (Itt K t) H1)
theorem pi_seqC {tg l : Expr} {tl : TE} (T : ItFn X.prog X.w X.K X.mg X.base C f fld) (hr : Room 1 X.A) (hl : PE X l tl) : PI X tg l (iSeqC X.B C fld tl) := by
  refine ⟨fun pins s σ H R I h => ?_⟩
  refine thn (hl.run pins s σ H _ I h) fun v s1 ⟨x, H1, I1, r1, q1⟩ => ?_
  obtain ⟨a, e, q⟩ := q1
  subst e
  cases r1
  rcases q with ⟨⟨xs, hq⟩, q⟩ | ⟨⟨xs, hq⟩, q⟩ | ⟨dx, fs, t, zs, ea, hlk, hz, q⟩
  · obtain ⟨its, rv, p, hz⟩ := I1.list hq
    refine wpAny_pyIter_list p.isList ?_
    refine ⟨s1.heap.objs.size, [s1.heap.objs.size], _, _, H1, rfl, I1.kept (t' := s1.toks) fun b o e => Heap.get?_push_of_some _ e, turn_list a _, ⟨_, Heap.get?_push_size _ rfl, rfl, rfl⟩, fun b hb => ?_, q⟩
    have e : b = s1.heap.objs.size := by simpa using hb
    subst e
    exact I1.fpOk (Nat.le_refl _) (I1.hok.fresh (Nat.le_refl _))
  · obtain ⟨its, rv, p, hz⟩ := I1.tuple hq
    refine wpAny_pyIter_tuple (show s1.heap.IsTuple a its.toArray from p) ?_
    refine ⟨s1.heap.objs.size, [s1.heap.objs.size], _, _, H1, rfl, I1.kept (t' := s1.toks) fun b o e => Heap.get?_push_of_some _ e, turn_tuple a _, ⟨_, Heap.get?_push_size _ rfl, rfl, rfl⟩, fun b hb => ?_, q⟩
    have e : b = s1.heap.objs.size := by simpa using hb
    subst e
    exact I1.fpOk (Nat.le_refl _) (I1.hok.fresh (Nat.le_refl _))
  · obtain ⟨mA, O, _⟩ := ins_get I1.hok ea
    obtain ⟨od, J, _⟩ := O.look
    obtain ⟨m, hF⟩ := I1.fr
    refine PySem.W.owit_iter hF I1.ok.mod.kin J T.at_ T.fn (iter_call T hr I1 ea hlk hz fun it s' I2 st fp => ?_)
    unfold PySem.W.OwitIt
    refine wpAny_specialOf (name := Str.ofString "__next__") st.typeIs PySem.F.slot_tuple_iterator_next.lookup ?_
    refine ⟨it, [it], _, _, H1, rfl, I2, turn_tuple t it, st, fun b hb => ?_, q⟩
    have e : b = it := by simpa using hb
    subst e
    exact fp
end
end DL

/-! DMD: loops over own instances; operators. -/
namespace DL
open PySem PySem.Spec PyProof.Rows L2 Evl

/-- the items of an instance of C: its field's -/
def insSeq (C : Addr) (fld : Str) : D → Option (List D)
  | .ins C' ns ds => if C' = C then (match (ns.zip ds).lookup fld with
    | some (.tup xs) => some xs
    | _ => none) else none
  | _ => none
theorem insSeq_ok {K : KB} {F : Hp} {d : D} {ds : List D} {v : V} {C : Addr} {fld : Str} (h : Rep K F d v) (e : insSeq C fld d = some ds) : ∃ a dx fs t zs, v = .ref a ∧ F a = some (.ins C dx fs) ∧ fs.lookup fld = some (.ref t) ∧ SqT K F t zs ∧ Reps K F ds zs := by
  unfold insSeq at e
  split at e
  · split at e
    · rename_i C' ns ds' hC
      subst hC
      split at e
      · rename_i xs hl
        cases e
        obtain ⟨a, dx, ys, rfl, h1, h2, h3⟩ := h
        obtain ⟨w, hw, t, zs, rfl, h4, h5⟩ := reps_look h3 hl
        exact ⟨a, dx, _, t, zs, rfl, h1, hw, h4, h5⟩
      · cases e
    · cases e
  · cases e
def sforC (C : Addr) (fld : Str) (it : Den Rv) (bind : D → Env → Option Env) (body : SDen) : SDen := sbind it fun rv e => match rv with
  | .im d => match insSeq C fld d with
    | some ds => sloop bind body ds e
    | none => match seqD d with
      | some ds => sloop bind body ds e
      | none => none
  | .new o => match seqD o.flat with
    | some ds => sloop bind body ds e
    | none => none
  | .bor i _ => match e[i]? with
    | some (some (_, o)) => match seqO o with
      | some ds => slend i (sloop bind body ds) e
      | none => none
    | _ => none
section
variable {X : Cx} {W : WX} {tg iter : Expr} {body : List Stmt} {pos : Pos} {it : Den Rv} {bind : D → Env → Option Env} {sl : List Nat} {db : SDen}
theorem ds_forC {C f : Addr} {fld : Str} (T : ItFn X.prog X.w X.K X.mg X.base C f fld) (hroom : Room 1 X.A) (hp : PassesOwn (model X.prog X.w) X.A X.env X.xe) (hc : X.calm = true) (hi : DE X W iter it) (hg : DG X tg bind sl) (hb : DSs X W body db) (hs : ∀ x, foldedSetIterable iter X.env x = pure x := by intro _; rfl) :
    DS X W (.For tg iter body [] pos) (sforC C fld it bind db) := ⟨ps_weak (ps_for hp hc (pi_seqC T hroom hi.run) hg.run hb.run hs) fun D0 σ H q => by
  obtain ⟨c, F, e, ts, R, q⟩ := q
  refine ⟨c, F, e, ts, R, q.sbind (rel := relR) fun F1 H1 e1 rv v ef hr q1 => ?_⟩
  -- frozen
  have fz : ∀ {F2 : Hp} {d : D} {ds : List D}, RE X.B c F2 H1 σ e1 ts → Rep X.B F2 d v → seqD d = some ds → AtS X.B W (sloop bind db ds) D0 c F2 σ e1 ts H1 → ∃ a, v = .ref a ∧
      (((∃ xs, SqL X.B H1 a xs) ∧ (fun J H1 => ∃ Wv : Nat → Nat → L2.St → Hp → Prop, (∃ m, Wv 0 m σ H1) ∧ ∀ i m σ H, Wv i m σ H → (J.stop i H ∧ D0.nx σ H) ∨ (J.go i H ∧ ∃ N : L2.St → Hp → Prop, (∀ σ' H', N σ' H' → ∃ m', m' < m ∧ Wv (i + 1) m' σ' H') ∧
        ∀ x H', J.yld i H x H' → tgR X.B bind sl x σ H' fun σ2 H2 => rdS X.B W db { D0 with nx := N, ct := N, bk := D0.nx } σ2 H2)) (Itl X.B a) H1) ∨ ((∃ xs, SqT X.B H1 a xs) ∧ (fun J H1 => ∃ Wv : Nat → Nat → L2.St → Hp → Prop, (∃ m, Wv 0 m σ H1) ∧ ∀ i m σ H, Wv i m σ H → (J.stop i H ∧ D0.nx σ H) ∨ (J.go i H ∧ ∃ N : L2.St → Hp → Prop, (∀ σ' H', N σ' H' → ∃ m', m' < m ∧ Wv (i + 1) m' σ' H') ∧
        ∀ x H', J.yld i H x H' → tgR X.B bind sl x σ H' fun σ2 H2 => rdS X.B W db { D0 with nx := N, ct := N, bk := D0.nx } σ2 H2)) (Itt X.B a) H1) ∨ ∃ dx fs t zs, H1 a = some (.ins C dx fs) ∧ fs.lookup fld = some (.ref t) ∧ SqT X.B H1 t zs ∧ (fun J H1 => ∃ Wv : Nat → Nat → L2.St → Hp → Prop, (∃ m, Wv 0 m σ H1) ∧ ∀ i m σ H, Wv i m σ H → (J.stop i H ∧ D0.nx σ H) ∨ (J.go i H ∧ ∃ N : L2.St → Hp → Prop, (∀ σ' H', N σ' H' → ∃ m', m' < m ∧ Wv (i + 1) m' σ' H') ∧
        ∀ x H', J.yld i H x H' → tgR X.B bind sl x σ H' fun σ2 H2 => rdS X.B W db { D0 with nx := N, ct := N, bk := D0.nx } σ2 H2)) (Itt X.B t) H1) := by
    intro F2 d ds R2 hrep hsq h2
    obtain ⟨a, xs, rfl, hrs, hsrc⟩ := seq_src hrep hsq
    refine ⟨a, rfl, ?_⟩
    rcases hsrc with hsrc | hsrc
    · exact .inl ⟨⟨xs, ex_l R2.fh hsrc⟩, loop_ok src_list (fun F' H' σ' e' ef' R' => ⟨xs, ex_l (ef'.trans R'.fh) hsrc, Reps.mono ef' _ _ hrs⟩) R2 h2⟩
    · exact .inr (.inl ⟨⟨xs, ex_t R2.fh hsrc⟩, loop_ok src_tup (fun F' H' σ' e' ef' R' => ⟨xs, ex_t (ef'.trans R'.fh) hsrc, Reps.mono ef' _ _ hrs⟩) R2 h2⟩)
  have fi : ∀ {F2 : Hp} {d : D} {ds : List D}, RE X.B c F2 H1 σ e1 ts → Rep X.B F2 d v → insSeq C fld d = some ds → AtS X.B W (sloop bind db ds) D0 c F2 σ e1 ts H1 → ∃ a, v = .ref a ∧
      (((∃ xs, SqL X.B H1 a xs) ∧ (fun J H1 => ∃ Wv : Nat → Nat → L2.St → Hp → Prop, (∃ m, Wv 0 m σ H1) ∧ ∀ i m σ H, Wv i m σ H → (J.stop i H ∧ D0.nx σ H) ∨ (J.go i H ∧ ∃ N : L2.St → Hp → Prop, (∀ σ' H', N σ' H' → ∃ m', m' < m ∧ Wv (i + 1) m' σ' H') ∧
        ∀ x H', J.yld i H x H' → tgR X.B bind sl x σ H' fun σ2 H2 => rdS X.B W db { D0 with nx := N, ct := N, bk := D0.nx } σ2 H2)) (Itl X.B a) H1) ∨ ((∃ xs, SqT X.B H1 a xs) ∧ (fun J H1 => ∃ Wv : Nat → Nat → L2.St → Hp → Prop, (∃ m, Wv 0 m σ H1) ∧ ∀ i m σ H, Wv i m σ H → (J.stop i H ∧ D0.nx σ H) ∨ (J.go i H ∧ ∃ N : L2.St → Hp → Prop, (∀ σ' H', N σ' H' → ∃ m', m' < m ∧ Wv (i + 1) m' σ' H') ∧
        ∀ x H', J.yld i H x H' → tgR X.B bind sl x σ H' fun σ2 H2 => rdS X.B W db { D0 with nx := N, ct := N, bk := D0.nx } σ2 H2)) (Itt X.B a) H1) ∨ ∃ dx fs t zs, H1 a = some (.ins C dx fs) ∧ fs.lookup fld = some (.ref t) ∧ SqT X.B H1 t zs ∧ (fun J H1 => ∃ Wv : Nat → Nat → L2.St → Hp → Prop, (∃ m, Wv 0 m σ H1) ∧ ∀ i m σ H, Wv i m σ H → (J.stop i H ∧ D0.nx σ H) ∨ (J.go i H ∧ ∃ N : L2.St → Hp → Prop, (∀ σ' H', N σ' H' → ∃ m', m' < m ∧ Wv (i + 1) m' σ' H') ∧
        ∀ x H', J.yld i H x H' → tgR X.B bind sl x σ H' fun σ2 H2 => rdS X.B W db { D0 with nx := N, ct := N, bk := D0.nx } σ2 H2)) (Itt X.B t) H1) := by
    intro F2 d ds R2 hrep hin h2
    obtain ⟨a, dx, fs, t, zs, rfl, h3, h4, h5, h6⟩ := insSeq_ok hrep hin
    exact ⟨a, rfl, .inr (.inr ⟨dx, fs, t, zs, R2.fh _ _ h3, h4, ex_t R2.fh h5, loop_ok src_tup (fun F' H' σ' e' ef' R' => ⟨zs, ex_t (ef'.trans R'.fh) h5, Reps.mono ef' _ _ h6⟩) R2 h2⟩)⟩
  obtain ⟨r, hr2, post⟩ := q1
  cases rv with
  | im d =>
    dsimp only at hr2
    cases hins : insSeq C fld d with
    | some ds =>
      rw [hins] at hr2
      exact fi hr.1 hr.2 hins ⟨r, hr2, post⟩
    | none =>
    rw [hins] at hr2
    dsimp only at hr2
    cases hsq : seqD d with
    | none => rw [hsq] at hr2; cases hr2
    | some ds =>
      rw [hsq] at hr2
      exact fz hr.1 hr.2 hsq ⟨r, hr2, post⟩
  | new o =>
    dsimp only at hr2
    cases hsq : seqD o.flat with
    | none => rw [hsq] at hr2; cases hr2
    | some ds =>
      rw [hsq] at hr2
      obtain ⟨F3, e3, R3, h3⟩ := RE.freezeT hr
      refine fz R3 h3 hsq ⟨r, hr2, ?_⟩
      cases r with
      | nx m e5 => exact fun F' H' σ' ef' eh R' => post F' H' σ' (e3.trans ef') eh R'
      | rt m e5 rv => exact fun F' H' σ' v' ef' eh R' => post F' H' σ' v' (e3.trans ef') eh R'
      | bk m e5 => exact fun F' H' σ' ef' eh R' => post F' H' σ' (e3.trans ef') eh R'
      | ct m e5 => exact fun F' H' σ' ef' eh R' => post F' H' σ' (e3.trans ef') eh R'
      | er m e5 x => exact fun F' H' σ' cls d ef' eh R' hx => post F' H' σ' cls d (e3.trans ef') eh R' hx
  | bor i o0 =>
    dsimp only at hr2
    cases hi1 : e1[i]? with
    | none => rw [hi1] at hr2; cases hr2
    | some s =>
      rw [hi1] at hr2
      cases s with
      | none => cases hr2
      | some s =>
        obtain ⟨b, o⟩ := s
        dsimp only at hr2
        cases hsq : seqO o with
        | none => rw [hsq] at hr2; cases hr2
        | some ds =>
          rw [hsq] at hr2
          obtain ⟨b', o', v', hb', hv', R3, h3⟩ := AtS.lend ⟨r, hr2, post⟩ hr.1
          rw [hi1] at hb'
          cases hb'
          rw [hr.2.1] at hv'
          cases hv'
          obtain ⟨fs, hown⟩ := R3.temp
          cases o with
          | lst os =>
            have eo := ims_eq hsq
            subst eo
            obtain ⟨a, xs, rr, rfl, _, ha, hos⟩ := hown
            exact ⟨a, rfl, .inl ⟨⟨xs, SqL.of ha⟩, loop_ok src_list (fun F' H' σ' e' ef' R' => by
              obtain ⟨fs', a', xs', rr', e1, _, ha', hos'⟩ := R'.temp
              cases e1
              exact ⟨xs', SqL.of ha', (of_owns_im hos').1⟩) R3 h3⟩⟩
          | tup os =>
            have eo := ims_eq hsq
            subst eo
            obtain ⟨a, xs, rr, rfl, _, ha, hos⟩ := hown
            exact ⟨a, rfl, .inr (.inl ⟨⟨xs, SqT.of ha⟩, loop_ok src_tup (fun F' H' σ' e' ef' R' => by
              obtain ⟨fs', a', xs', rr', e1, _, ha', hos'⟩ := R'.temp
              cases e1
              exact ⟨xs', SqT.of ha', (of_owns_im hos').1⟩) R3 h3⟩)⟩
          | _ => cases hsq⟩

/-- a frozen source, an own instance among them -/
def sqC (C : Addr) (fld : Str) (d : Den D) : Den (List D) := dbind d fun x => dlift (match insSeq C fld x with
  | some ds => some ds
  | none => seqD x)
theorem dpi_seqC {C f : Addr} {fld : Str} {d : Den D} (T : ItFn X.prog X.w X.K X.mg X.base C f fld) (hroom : Room 1 X.A) (h : DI X W iter d) : DPI X W tg iter (sqC C fld d) := ⟨pi_weak (pi_seqC T hroom h.run) fun σ H R q => by
  obtain ⟨c, F, e, ts, R0, q⟩ := q
  refine ⟨c, F, e, ts, R0, q.bind (rel := relI) fun F1 H1 e1 x v ef hr q1 => ?_⟩
  obtain ⟨ds, hd, k⟩ := q1.lift
  split at hd
  · rename_i ds' hin
    cases hd
    obtain ⟨a, dx, fs, t, zs, rfl, h3, h4, h5, h6⟩ := insSeq_ok hr.2 hin
    exact ⟨a, rfl, .inr (.inr ⟨dx, fs, t, zs, hr.1.fh _ _ h3, h4, ex_t hr.1.fh h5, k F1 H1 _ (Ex.refl _) (Ex.refl _) ⟨hr.1, _, src_tup, fun F' H' ef' fh' => ⟨zs, ex_t (ef'.trans fh') h5, Reps.mono ef' _ _ h6⟩⟩⟩)⟩
  · obtain ⟨a, xs, rfl, hrs, hsrc⟩ := seq_src hr.2 hd
    refine ⟨a, rfl, ?_⟩
    rcases hsrc with hsrc | hsrc
    · exact .inl ⟨⟨xs, ex_l hr.1.fh hsrc⟩, k F1 H1 _ (Ex.refl _) (Ex.refl _) ⟨hr.1, _, src_list, fun F' H' ef' fh' => ⟨xs, ex_l (ef'.trans fh') hsrc, Reps.mono ef' _ _ hrs⟩⟩⟩
    · exact .inr (.inl ⟨⟨xs, ex_t hr.1.fh hsrc⟩, k F1 H1 _ (Ex.refl _) (Ex.refl _) ⟨hr.1, _, src_tup, fun F' H' ef' fh' => ⟨xs, ex_t (ef'.trans fh') hsrc, Reps.mono ef' _ _ hrs⟩⟩⟩)⟩
end
end DL

/-! DME: operators, properties, static methods of own classes; their instances told apart. -/
namespace DL
open PySem PySem.Spec PyProof.Rows L2 Evl

/-! ### a def called by the machine, its arguments frozen, letting nothing out -/
def ownR : Option FRes → Option D
  | some (.ok _ _ (.im d)) => some d
  | some (.ok _ _ (.new o)) => some o.flat
  | _ => none
theorem spD_own {K : KB} {n : Nat} {f : FDen} {ds : List D} {vs : List V} {d : D} {F H : Hp} {Q : VK} (fh : Ex F H) (hr : Reps K F ds vs) (hn : ds.length = n) (hf : ownR (f (ds.map O.im)) = some d)
    (k : ∀ F' H' v, Ex F F' → Ex H H' → Ex F' H' → Fresh F H F' → Rep K F' d v → Q v H') : spD K n f vs H Q (fun _ _ _ => False) := by
  refine ⟨hr.length.symm.trans hn, F, ds.map O.im, [], ?_⟩
  cases hq : f (ds.map O.im) with
  | none => rw [hq] at hf; cases hf
  | some r =>
    rw [hq] at hf
    refine ⟨r, by rw [List.length_map]; exact hn, held_im hr, List.nodup_nil, fun p hp => (nomatch hp), fh, rfl, ?_⟩
    cases r with
    | err m os x => cases hf
    | ok m os rv =>
      intro F' H' v fs' ef fh' _ keep nw hrep hh nd hfs
      have eh : Ex H H' := fun p u z => keep p u (fun w => nomatch w) z
      have fr : Fresh F H F' := fun p hp => by
        rcases nw p hp with z | z | z
        · exact .inl z
        · exact .inr z
        · cases z
      cases rv with
      | im d' =>
        cases hf
        exact k F' H' v ef eh fh' fr hrep
      | new o =>
        cases hf
        obtain ⟨f1, h1, hsub⟩ := held_frvs hh
        have h1f : ∀ p ∈ f1, F' p = none ∧ H p = none := fun p hp => by
          obtain ⟨z1, z2⟩ := hfs p (hsub.subset hp)
          rcases z2 with z2 | z2
          · cases z2
          · exact ⟨z1, z2⟩
        refine k (addF F' H' f1) H' v (ef.trans (ex_addF fun p hp => (h1f p hp).1)) eh (addF_ex fh') (fun p hp => ?_) (Own.rep (ex_addF fun p hp => (h1f p hp).1) o v f1 (fun p hp u z => by rw [addF_in hp]; exact z) h1)
        by_cases q : p ∈ f1
        · exact .inr (h1f p q).2
        · rw [addF_out q] at hp
          exact fr p hp
theorem noX {X : Cx} (σ : L2.St) : PassesAt (L2.CX X.prog X.w) X σ (fun _ _ _ => False) := fun pins H s e s' I h => (passAt (takes0 (X := X.nox)) σ pins H s e s' (I.wish _) h).elim
section
variable {X : Cx} {C f : Addr} {k n : Nat} {fd : FuncData} {ps : List Str} {fn : FDen}
/-- an own method, found for an operator -/
structure OwnM (X : Cx) (C : Addr) (m : Str) (f : Addr) (k n : Nat) (fn : FDen) : Prop where
  at_ : PySem.W.findIn X.K (.ref C) m = some (some (.ref f))
  isf : PySem.W.isFn X.K (.ref f) = true
  ok : ∃ fd ps, FnOk X.prog X.w X.K X.mg X.base (L2.CX X.prog X.w) k f fd ps (spD X.B n fn) ∧ Binds X.K fd ps []
theorem own_run {m : Str} (M : OwnM X C m f k n fn) (hr : Room k X.A) {pins : List (Addr × Obj)} {σ : L2.St} {H : Hp} {s : Shared} {us : List Value} {vs : List V} {Q : VK} {R : Value → Shared → Prop} (I : Inv X pins σ H s) (r : Vals vs us) (h : spD X.B n fn vs H Q (fun _ _ _ => False))
    (hk : ∀ v u H' s', Inv X pins σ H' s' → RelV v u → Q v H' → R u s') : wpAny (model X.prog X.w) X.A (call (.ref f) us) R X.xe s := by
  obtain ⟨fd, ps, F, B⟩ := M.ok
  refine wpAny_mono (run_fnSD (E := fun _ _ _ _ => False) F hr B .nil (noX σ) I r (by rw [List.append_nil]; exact h)) (fun u s' q => ?_) fun _ _ z => z
  obtain ⟨v, H', I', rv, q⟩ := q
  exact hk v u H' s' I' rv q
/-- x op y, both instances of C -/
def own2 (C : Addr) (fn : FDen) : D → D → Option D
  | .ins C1 ns xs, .ins C2 ms ys => if C1 = C ∧ C2 = C then ownR (fn [.im (.ins C1 ns xs), .im (.ins C2 ms ys)]) else none
  | _, _ => none
def rOwn2 (K : KB) (C : Addr) (n : Nat) (fn : FDen) : R2 := fun x y H Q => ∃ a b dx dy fs gs, x = .ref a ∧ y = .ref b ∧ H a = some (.ins C dx fs) ∧ H b = some (.ins C dy gs) ∧ spD K n fn [x, y] H Q (fun _ _ _ => False)
theorem ok_own2 {K : KB} : OpOk K (rOwn2 K C 2 fn) (own2 C fn) := by
  intro F H x y dx dy d fh h1 h2 hg Q kk
  unfold own2 at hg
  split at hg
  · split at hg
    · rename_i hC
      obtain ⟨e1, e2⟩ := hC
      subst e1
      subst e2
      obtain ⟨a, dx, xs, rfl, g1, g2, g3⟩ := id h1
      obtain ⟨b, dy, ys, rfl, g4, g5, g6⟩ := id h2
      exact ⟨a, b, dx, dy, _, _, rfl, rfl, fh _ _ g1, fh _ _ g4, spD_own (ds := [_, _]) fh ⟨_, _, rfl, h1, _, _, rfl, h2, rfl⟩ rfl hg kk⟩
    · cases hg
  · cases hg
theorem op_own2 {op : Operator} (M : OwnM X C (PySem.dunder op.info.2) f k 2 fn) (hr : Room k X.A) (hc : PySem.W.selfFirst X.K C = true) : OpR X (binaryOp op) (rOwn2 X.B C 2 fn) := by
  intro pins s σ H x y v u Q I rx ry h
  obtain ⟨a, b, dx, dy, fs, gs, rfl, rfl, ha, hb, hsp⟩ := h
  cases rx
  cases ry
  obtain ⟨mA, O, _⟩ := ins_get I.hok ha
  obtain ⟨od, J, _⟩ := O.look
  obtain ⟨mB, O', _⟩ := ins_get I.hok hb
  obtain ⟨od', J', _⟩ := O'.look
  obtain ⟨m, hF⟩ := I.fr
  refine PySem.W.binop_K hF I.ok.mod.kin J J'.type hc M.at_ M.isf (own_run (vs := [.ref a, .ref b]) M hr I (.cons rfl (.cons rfl .nil)) hsp fun v u H' s' I' rv q => ?_)
  unfold PySem.W.CmpBack
  cases v with
  | int i => obtain ⟨t, rfl⟩ := rv; exact ⟨.int i, H', I', ⟨t, rfl⟩, q⟩
  | str i => obtain ⟨t, rfl⟩ := rv; exact ⟨.str i, H', I', ⟨t, rfl⟩, q⟩
  | byt i => obtain ⟨t, rfl⟩ := rv; exact ⟨.byt i, H', I', ⟨t, rfl⟩, q⟩
  | flt i => obtain ⟨t, rfl⟩ := rv; exact ⟨.flt i, H', I', ⟨t, rfl⟩, q⟩
  | non => cases rv; exact ⟨.non, H', I', rfl, q⟩
  | bl b => cases rv; exact ⟨.bl b, H', I', rfl, q⟩
  | ref b => cases rv; exact ⟨.ref b, H', I', rfl, q⟩
  | ty b => cases rv; exact ⟨.ty b, H', I', rfl, q⟩
/-- x == y by the own __eq__, x and y instances of C -/
theorem op_ownEq (M : OwnM X C "__eq__" f k 2 fn) (hr : Room k X.A) (hu : X.A.units < cLine) (hn : PySem.W.notFirst X.K C (.ref C) = true) : OpR X (compareOp .Eq) (rOwn2 X.B C 2 fn) := by
  intro pins s σ H x y v u Q I rx ry h
  obtain ⟨a, b, dx, dy, fs, gs, rfl, rfl, ha, hb, hsp⟩ := h
  cases rx
  cases ry
  obtain ⟨mA, O, _⟩ := ins_get I.hok ha
  obtain ⟨od, J, _⟩ := O.look
  obtain ⟨mB, O', _⟩ := ins_get I.hok hb
  obtain ⟨od', J', _⟩ := O'.look
  obtain ⟨m, hF⟩ := I.fr
  show wpAny (model X.prog X.w) X.A (richCompare .Eq (.ref a) (.ref b)) _ _ s
  refine PySem.W.cmp_K (op := .Eq) hu hF I.ok.mod.kin J J'.type hn M.at_ M.isf (own_run (vs := [.ref a, .ref b]) M hr I (.cons rfl (.cons rfl .nil)) hsp fun v u H' s' I' rv q => ?_)
  unfold PySem.W.CmpBack
  cases v with
  | int i => obtain ⟨t, rfl⟩ := rv; exact ⟨.int i, H', I', ⟨t, rfl⟩, q⟩
  | str i => obtain ⟨t, rfl⟩ := rv; exact ⟨.str i, H', I', ⟨t, rfl⟩, q⟩
  | byt i => obtain ⟨t, rfl⟩ := rv; exact ⟨.byt i, H', I', ⟨t, rfl⟩, q⟩
  | flt i => obtain ⟨t, rfl⟩ := rv; exact ⟨.flt i, H', I', ⟨t, rfl⟩, q⟩
  | non => cases rv; exact ⟨.non, H', I', rfl, q⟩
  | bl b => cases rv; exact ⟨.bl b, H', I', rfl, q⟩
  | ref b => cases rv; exact ⟨.ref b, H', I', rfl, q⟩
  | ty b => cases rv; exact ⟨.ty b, H', I', rfl, q⟩
/-- x == y, y a tuple -/
def own2T (C : Addr) (fn : FDen) : D → D → Option D
  | .ins C1 ns xs, .tup ys => if C1 = C then ownR (fn [.im (.ins C1 ns xs), .im (.tup ys)]) else none
  | _, _ => none
def rOwn2T (K : KB) (C : Addr) (n : Nat) (fn : FDen) : R2 := fun x y H Q => ∃ a b dx fs ys, x = .ref a ∧ y = .ref b ∧ H a = some (.ins C dx fs) ∧ SqT K H b ys ∧ spD K n fn [x, y] H Q (fun _ _ _ => False)
theorem ok_own2T {K : KB} : OpOk K (rOwn2T K C 2 fn) (own2T C fn) := by
  intro F H x y dx dy d fh h1 h2 hg Q kk
  unfold own2T at hg
  split at hg
  · split at hg
    · rename_i hC
      subst hC
      obtain ⟨a, dx, xs, rfl, g1, g2, g3⟩ := id h1
      obtain ⟨b, ys, rfl, g4, g5⟩ := id h2
      exact ⟨a, b, dx, _, ys, rfl, rfl, fh _ _ g1, ex_t fh g4, spD_own (ds := [_, _]) fh ⟨_, _, rfl, h1, _, _, rfl, h2, rfl⟩ rfl hg kk⟩
    · cases hg
  · cases hg
theorem op_ownEqT (M : OwnM X C "__eq__" f k 2 fn) (hr : Room k X.A) (hu : X.A.units < cLine) (hn : PySem.W.notFirst X.K C (.type "tuple") = true) : OpR X (compareOp .Eq) (rOwn2T X.B C 2 fn) := by
  intro pins s σ H x y v u Q I rx ry h
  obtain ⟨a, b, dx, fs, ys, rfl, rfl, ha, hb, hsp⟩ := h
  cases rx
  cases ry
  obtain ⟨mA, O, _⟩ := ins_get I.hok ha
  obtain ⟨od, J, _⟩ := O.look
  obtain ⟨its, _, ⟨ob, h1, h2, _⟩, _⟩ := I.tuple hb
  obtain ⟨m, hF⟩ := I.fr
  show wpAny (model X.prog X.w) X.A (richCompare .Eq (.ref a) (.ref b)) _ _ s
  have LT : PySem.W.Looks (model X.prog X.w) s.heap (typeOf (.ref b)) (.type "tuple") := by
    have q := (PySem.W.Looks.ld (M := model X.prog X.w) (part := none) h1).andThen (f := fun o => pure o.cls) (by rw [h2]; exact .now)
    exact q
  refine PySem.W.cmp_K (op := .Eq) hu hF I.ok.mod.kin J LT hn M.at_ M.isf (own_run (vs := [.ref a, .ref b]) M hr I (.cons rfl (.cons rfl .nil)) hsp fun v u H' s' I' rv q => ?_)
  unfold PySem.W.CmpBack
  cases v with
  | int i => obtain ⟨t, rfl⟩ := rv; exact ⟨.int i, H', I', ⟨t, rfl⟩, q⟩
  | str i => obtain ⟨t, rfl⟩ := rv; exact ⟨.str i, H', I', ⟨t, rfl⟩, q⟩
  | byt i => obtain ⟨t, rfl⟩ := rv; exact ⟨.byt i, H', I', ⟨t, rfl⟩, q⟩
  | flt i => obtain ⟨t, rfl⟩ := rv; exact ⟨.flt i, H', I', ⟨t, rfl⟩, q⟩
  | non => cases rv; exact ⟨.non, H', I', rfl, q⟩
  | bl b => cases rv; exact ⟨.bl b, H', I', rfl, q⟩
  | ref b => cases rv; exact ⟨.ref b, H', I', rfl, q⟩
  | ty b => cases rv; exact ⟨.ty b, H', I', rfl, q⟩
/-! ### -x, truth, in -/
def own1 (C : Addr) (fn : FDen) : D → Option D
  | .ins C1 ns xs => if C1 = C then ownR (fn [.im (.ins C1 ns xs)]) else none
  | _ => none
def rOwn1 (K : KB) (C : Addr) (n : Nat) (fn : FDen) : V → Hp → VK → Prop := fun x H Q => ∃ a dx fs, x = .ref a ∧ H a = some (.ins C dx fs) ∧ spD K n fn [x] H Q (fun _ _ _ => False)
theorem ok_own1 {K : KB} {F H : Hp} {x : V} {dx d : D} {Q : VK} (fh : Ex F H) (h1 : Rep K F dx x) (hg : own1 C fn dx = some d) (kk : ∀ F' H' v, Ex F F' → Ex H H' → Ex F' H' → Fresh F H F' → Rep K F' d v → Q v H') : rOwn1 K C 1 fn x H Q := by
  unfold own1 at hg
  split at hg
  · split at hg
    · rename_i hC
      subst hC
      obtain ⟨a, dx, xs, rfl, g1, g2, g3⟩ := id h1
      exact ⟨a, dx, _, rfl, fh _ _ g1, spD_own (ds := [_]) fh ⟨_, _, rfl, h1, rfl⟩ rfl hg kk⟩
    · cases hg
  · cases hg
theorem un_ownNeg (M : OwnM X C "__neg__" f k 1 fn) (hr : Room k X.A) : UnR X (unaryOp .USub) (rOwn1 X.B C 1 fn) := by
  intro pins s σ H x v Q I rx h
  obtain ⟨a, dx, fs, rfl, ha, hsp⟩ := h
  cases rx
  obtain ⟨mA, O, _⟩ := ins_get I.hok ha
  obtain ⟨od, J, _⟩ := O.look
  obtain ⟨m, hF⟩ := I.fr
  exact PySem.W.ksp_neg hF I.ok.mod.kin J M.at_ M.isf (own_run (vs := [.ref a]) M hr I (.cons rfl .nil) hsp fun v u H' s' I' rv q => ⟨v, H', I', rv, q⟩)
/-- x in o -/
def own2R (C : Addr) (fn : FDen) : D → D → Option D
  | x, .ins C1 ns xs => if C1 = C then (match ownR (fn [.im (.ins C1 ns xs), .im x]) with
    | some (.bl b) => some (.bl b)
    | _ => none) else none
  | _, _ => none
def rOwnIn (K : KB) (C : Addr) (n : Nat) (fn : FDen) : R2 := fun x y H Q => ∃ b dy gs, y = .ref b ∧ H b = some (.ins C dy gs) ∧ spD K n fn [y, x] H (fun v H' => ∃ k, v = .bl k ∧ Q v H') (fun _ _ _ => False)
theorem ok_ownIn {K : KB} : OpOk K (rOwnIn K C 2 fn) (own2R C fn) := by
  intro F H x y dx dy d fh h1 h2 hg Q kk
  unfold own2R at hg
  split at hg
  · split at hg
    · rename_i hC
      subst hC
      split at hg
      · rename_i bb hb
        cases hg
        obtain ⟨b, dy, ys, rfl, g4, g5, g6⟩ := id h2
        exact ⟨b, dy, _, rfl, fh _ _ g4, spD_own (ds := [_, _]) fh ⟨_, _, rfl, h2, _, _, rfl, h1, rfl⟩ rfl hb fun F' H' v a1 a2 a3 a4 a5 => ⟨bb, a5, kk F' H' v a1 a2 a3 a4 a5⟩⟩
      · cases hg
    · cases hg
  · cases hg
theorem op_ownIn (M : OwnM X C "__contains__" f k 2 fn) (hr : Room k X.A) : OpR X (compareOp .In) (rOwnIn X.B C 2 fn) := by
  intro pins s σ H x y v u Q I rx ry h
  obtain ⟨b, dy, gs, rfl, hb, hsp⟩ := h
  cases ry
  obtain ⟨mB, O', _⟩ := ins_get I.hok hb
  obtain ⟨od', J', _⟩ := O'.look
  obtain ⟨m, hF⟩ := I.fr
  refine PySem.W.in_K hF I.ok.mod.kin J' M.at_ M.isf (own_run (vs := [.ref b, x]) M hr I (.cons rfl (.cons rx .nil)) hsp fun v u H' s' I' rv q => ?_)
  obtain ⟨kk, rfl, q⟩ := q
  cases rv
  exact wpAny_truthy_bool ⟨.bl kk, H', I', rfl, q⟩
end
section
variable {X : Cx} {W : WX} {a b ex : Expr} {pos p : Pos} {C f : Addr} {k : Nat} {fn : FDen} {da db : Den D}
theorem di_ownB {op : Operator} (M : OwnM X C (PySem.dunder op.info.2) f k 2 fn) (hr : Room k X.A) (hc : PySem.W.selfFirst X.K C = true) (ha : DI X W a da) (hb : DI X W b db) : DI X W (.BinOp a op b pos) (dbin da db (own2 C fn)) :=
  di_opr (pe_op (op_own2 M hr hc)) ok_own2 ha hb
theorem di_ownEq (M : OwnM X C "__eq__" f k 2 fn) (hr : Room k X.A) (hu : X.A.units < cLine) (hn : PySem.W.notFirst X.K C (.ref C) = true) (ha : DI X W a da) (hb : DI X W b db) (hm : behindInMarks .Eq b = false) : DI X W (.Compare a [.Eq] [b] pos) (dbin da db (own2 C fn)) :=
  di_opr (fun h1 h2 => pe_cmpR (op_ownEq M hr hu hn) h1 h2 hm) ok_own2 ha hb
theorem di_ownEqT (M : OwnM X C "__eq__" f k 2 fn) (hr : Room k X.A) (hu : X.A.units < cLine) (hn : PySem.W.notFirst X.K C (.type "tuple") = true) (ha : DI X W a da) (hb : DI X W b db) (hm : behindInMarks .Eq b = false) : DI X W (.Compare a [.Eq] [b] pos) (dbin da db (own2T C fn)) :=
  di_opr (fun h1 h2 => pe_cmpR (op_ownEqT M hr hu hn) h1 h2 hm) ok_own2T ha hb
theorem di_ownIn (M : OwnM X C "__contains__" f k 2 fn) (hr : Room k X.A) (ha : DI X W a da) (hb : DI X W b db) (hm : behindInMarks .In b = false) : DI X W (.Compare a [.In] [b] pos) (dbin da db (own2R C fn)) :=
  di_opr (fun h1 h2 => pe_cmpR (op_ownIn M hr) h1 h2 hm) ok_ownIn ha hb
def dun (g : D → Option D) (d : Den D) : Den D := dbind d fun x => dlift (g x)
theorem di_ownU (M : OwnM X C "__neg__" f k 1 fn) (hr : Room k X.A) (ha : DI X W a da) : DI X W (.UnaryOp .USub a pos) (dun (own1 C fn) da) := ⟨pe_weak (pe_un (un_ownNeg M hr) ha.run) fun σ H Q q => by
  obtain ⟨c, F, e, ts, R, q⟩ := q
  refine ⟨c, F, e, ts, R, q.bind (rel := relI) fun F1 H1 e1 x v ef hr q1 => ?_⟩
  obtain ⟨d, hd, kk⟩ := q1.lift
  exact ok_own1 hr.1.fh hr.2 hd fun F' H' w e1 e2 e3 e4 e5 => kk F' H' w e1 e2 ⟨hr.1.grow e1 e2 e3 e4, e5⟩⟩
/-- a property -/
theorem di_prop {fld : Str} {pp g : Addr} {fd : FuncData} {ps : List Str} (ha : DI X W a da) (c : Cls X.K C) (hp : PropOf X.K C fld pp g) (Fn : FnOk X.prog X.w X.K X.mg X.base (L2.CX X.prog X.w) k g fd ps (spD X.B 1 fn)) (hr : Room (k + 1) X.A) (hb : Binds X.K fd ps [])
    (hab : attributeBase a fld X.env (eval a X.env) = eval a X.env := by rfl) : DI X W (.Attribute a fld pos) (dun (own1 C fn) da) := ⟨pe_weak (pe_prop ha.run c hp Fn hr hb .nil (E := fun _ _ _ => False) (fun pins σ H s e s' I h => noX (X := X.nox) σ pins H s e s' I h) hab) fun σ H Q q => by
  obtain ⟨c, F, e, ts, R, q⟩ := q
  refine ⟨c, F, e, ts, R, q.bind (rel := relI) fun F1 H1 e1 x v ef hr q1 => ?_⟩
  obtain ⟨d, hd, kk⟩ := q1.lift
  obtain ⟨a, dx, fs, rfl, h1, h2⟩ := ok_own1 (Q := Q) hr.1.fh hr.2 hd fun F' H' w e1 e2 e3 e4 e5 => kk F' H' w e1 e2 ⟨hr.1.grow e1 e2 e3 e4, e5⟩
  exact ⟨a, dx, fs, rfl, h1, h2⟩⟩
/-- the truth of an own instance -/
theorem dt_own (M : OwnM X C "__bool__" f k 1 fn) (hr : Room k X.A) (ha : DI X W a da) (he : ∀ whole, isTrue a X.env whole = (do let v ← whole; standAt a.pos; holding [v] (truthy v)) := by intro _; rfl) : DT X W a (dtB (dun (own1 C fn) da)) := ⟨by
  have P : PT X a (fun σ H Q => (rd relI X.B W da) σ H fun x H1 => rOwn1 X.B C 1 fn x H1 fun v H2 => ∃ k, v = .bl k ∧ Q k H2) := by
    refine ⟨fun pins s σ H Q I h => ?_⟩
    refine isTrue_plain (thn (ha.run.run pins s σ H _ I h) fun v s1 ⟨x, H1, I1, r1, q1⟩ => ?_) (he _)
    obtain ⟨a, dx, fs, rfl, ea, hsp⟩ := q1
    cases r1
    obtain ⟨mA, O, _⟩ := ins_get I1.hok ea
    obtain ⟨od, J, _⟩ := O.look
    obtain ⟨m, hF⟩ := I1.fr
    refine PySem.W.truthy_K hF I1.ok.mod.kin J M.at_ M.isf (own_run (vs := [.ref a]) M hr I1 (.cons rfl .nil) hsp fun v u H' s' I' rv q => ?_)
    obtain ⟨kk, rfl, q⟩ := q
    cases rv
    exact ⟨H', I', q⟩
  refine pt_weak P fun σ H Q q => ?_
  obtain ⟨c, F, e, ts, R, q⟩ := tB_rd q
  refine ⟨c, F, e, ts, R, q.bind (rel := relI) fun F1 H1 e1 x v ef hr q1 => ?_⟩
  obtain ⟨d, hd, kk⟩ := q1.lift
  exact ok_own1 hr.1.fh hr.2 hd fun F' H' w e1 e2 e3 e4 e5 => kk F' H' w e1 e2 ⟨hr.1.grow e1 e2 e3 e4, e5⟩⟩
end
end DL

/-! DMF: sorted of ints, of texts, of tuples of ints and texts: any length. -/
namespace DL
open PySem PySem.Spec PyProof.Rows L2 Evl

/-! ### the machine: items by their keys -/
abbrev SK := Int ⊕ List Nat
abbrev ltK (a b : List SK) : Bool := lexLt itemOrd a b
def itK : V → Option SK
  | .int i => some (.inl i)
  | .str s => some (.inr s.cps.toList)
  | _ => none
def isSt : SK → Bool
  | .inl _ => false
  | .inr _ => true
def ShOk (sh : Nat → Bool) : Nat → List SK → Prop
  | _, [] => True
  | j, x :: r => sh j = isSt x ∧ ShOk sh (j + 1) r
theorem shok_of : ∀ (l : List SK) (pre : List Bool), ShOk (fun i => (pre ++ l.map isSt).getD i false) pre.length l
  | [], _ => trivial
  | x :: r, pre => by
    refine ⟨?_, ?_⟩
    · show (pre ++ (isSt x :: r.map isSt)).getD pre.length false = isSt x
      rw [List.getD_eq_getElem?_getD, List.getElem?_append_right (Nat.le_refl _), Nat.sub_self]
      rfl
    · have h := shok_of r (pre ++ [isSt x])
      rw [List.length_append, List.append_assoc] at h
      exact h
theorem tup_items {sh : Nat → Bool} : ∀ {zs : List V} {us : List Value} {l : List SK} {j : Nat}, Vals zs us → zs.mapM itK = some l → ShOk sh j l → tupItems sh j us = some l
  | [], _, l, j, .nil, h, _ => by
    have e : some [] = some l := by rw [← h]; rfl
    rw [← Option.some.inj e]
    rw [tupItems]
  | z :: zs, _, l, j, .cons r rs, h, s => by
    rw [List.mapM_cons] at h
    cases hz : itK z with
    | none => rw [hz] at h; cases h
    | some k =>
      rw [hz] at h
      cases hr : zs.mapM itK with
      | none => rw [hr] at h; cases h
      | some l' =>
        rw [hr] at h
        cases h
        cases z with
        | int i =>
          obtain ⟨t, rfl⟩ := r
          cases hz
          have s1 : sh j = false := s.1
          rw [tupItems, s1, if_neg Bool.false_ne_true, tup_items rs hr s.2]
          rfl
        | str i =>
          obtain ⟨t, rfl⟩ := r
          cases hz
          have s1 : sh j = true := s.1
          rw [tupItems, s1, if_pos rfl, tup_items rs hr s.2]
          rfl
        | _ => cases hz
/-- x's key -/
def KV (K : PySem.W.Frag) (H : Hp) (x : V) (l : List SK) : Prop := (∃ i, x = .int i ∧ l = [.inl i]) ∨ (∃ s, x = .str s ∧ l = [.inr s.cps.toList]) ∨ (∃ t zs, x = .ref t ∧ SqT K H t zs ∧ zs.mapM itK = some l)
/-- all of one kind -/
def AllK (K : PySem.W.Frag) (H : Hp) (xs : List V) : Prop := (∀ x ∈ xs, ∃ i, x = .int i) ∨ (∀ x ∈ xs, ∃ s, x = .str s) ∨
  ∃ sh : List Bool, sh ≠ [] ∧ ∀ x ∈ xs, ∃ t zs l, x = .ref t ∧ SqT K H t zs ∧ zs.mapM itK = some l ∧ l.map isSt = sh
def kv (h : Heap) (sh : Nat → Bool) : Value → List SK
  | .int i _ => [.inl i]
  | .str s _ => [.inr s.cps.toList]
  | u => (tupKey h sh u).getD []
theorem tk_ref {h : Heap} {sh : Nat → Bool} {t : Addr} {o : Obj} {xs : Array Value} {n : Nat} (g : h.get? t = some o) (d : o.data = .seq xs n) : tupKey h sh (.ref t) = tupItems sh 0 xs.toList := by
  simp only [tupKey, g, d]
def vOf : Value → V
  | .int i _ => .int i
  | .str s _ => .str s
  | .ref a => .ref a
  | _ => .non
def plV : Value → Bool
  | .int _ _ => true
  | .str _ _ => true
  | .ref _ => true
  | _ => false
theorem vals_vOf : ∀ {us : List Value}, (∀ u ∈ us, plV u = true) → Vals (us.map vOf) us
  | [], _ => .nil
  | u :: us, h => by
    refine .cons ?_ (vals_vOf fun y hy => h y (List.mem_cons_of_mem _ hy))
    have := h u List.mem_cons_self
    cases u with
    | int i t => exact ⟨t, rfl⟩
    | str i t => exact ⟨t, rfl⟩
    | ref a => rfl
    | _ => cases this
def plX : V → Bool
  | .int _ => true
  | .str _ => true
  | .ref _ => true
  | _ => false
theorem vOf_back : ∀ {xs : List V} {us : List Value}, Vals xs us → (∀ x ∈ xs, plX x = true) → xs = us.map vOf ∧ ∀ u ∈ us, plV u = true
  | _, _, .nil, _ => ⟨rfl, fun u hu => nomatch hu⟩
  | x :: xs, u :: us, .cons r rs, h => by
    obtain ⟨e, k⟩ := vOf_back rs fun y hy => h y (List.mem_cons_of_mem _ hy)
    have hx := h x List.mem_cons_self
    have : x = vOf u ∧ plV u = true := by
      cases x with
      | int i => obtain ⟨t, rfl⟩ := r; exact ⟨rfl, rfl⟩
      | str i => obtain ⟨t, rfl⟩ := r; exact ⟨rfl, rfl⟩
      | ref i => cases r; exact ⟨rfl, rfl⟩
      | _ => cases hx
    refine ⟨by rw [List.map_cons, ← e, ← this.1], fun v hv => ?_⟩
    rcases List.mem_cons.mp hv with q | hv
    · rw [q]; exact this.2
    · exact k v hv
theorem swo_kv (h : Heap) (sh : Nat → Bool) : SrtO.Swo fun u v => ltK (kv h sh u) (kv h sh v) := by
  refine ⟨fun x y q => ?_, fun x y z h1 h2 => ?_⟩
  · cases e : ltK (kv h sh y) (kv h sh x) with
    | false => rfl
    | true =>
      have := lex_trans _ _ _ q e
      rw [lex_irrefl] at this
      cases this
  · cases e : ltK (kv h sh z) (kv h sh x) with
    | false => rfl
    | true =>
      rcases lex_negTrans _ (kv h sh y) _ e with w | w
      · exact absurd (h2.symm.trans w) (by decide)
      · exact absurd (h1.symm.trans w) (by decide)
section
variable {prog : Program} {w : World} {A : Around} {s : Shared}
theorem lt_inl (a b : Int) : ltK [.inl a] [.inl b] = decide (a < b) := by
  show (decide (a < b) || (!decide (b < a) && false)) = _
  rw [Bool.and_false, Bool.or_false]
theorem lt_inr (a b : List Nat) : ltK [.inr a] [.inr b] = decide (a < b) := by
  have : itemOrd.blt (.inr a) (.inr b) = decide (a < b) := by
    by_cases h : a < b
    · rw [decide_eq_true h]; exact decide_eq_true h
    · rw [decide_eq_false h]; exact decide_eq_false h
  show (itemOrd.blt (.inr a) (.inr b) || (!itemOrd.blt (.inr b) (.inr a) && false)) = _
  rw [Bool.and_false, Bool.or_false]
  exact this
end
theorem kindI : ∀ {vs : List Value} {M : Model} {A : Around} {Q : SortKind → Shared → Prop} {E : Value → Shared → Prop} {s : Shared}, (∀ v ∈ vs, ∃ i t, v = Value.int i t) → 2 ≤ vs.length → Q oneType' s → wpAny M A (keyKind' vs.toArray) Q E s
  | v1 :: v2 :: rest, _, _, _, _, _, h, _, q => by
    rw [keyKind_ints (SrtO.ints_iv h)]
    exact wpAny_pure q
  | [], _, _, _, _, _, _, h, _ => absurd h (by decide)
  | [v], _, _, _, _, _, _, h, _ => absurd h (by simp)
theorem strs_of : ∀ {vs : List Value}, (∀ v ∈ vs, ∃ i t, v = Value.str i t) → ∃ ss, StrsAre vs ss
  | [], _ => ⟨_, .nil⟩
  | v :: vs, h => by
    obtain ⟨i, t, e⟩ := h v List.mem_cons_self
    subst e
    obtain ⟨ss, r⟩ := strs_of fun u hu => h u (List.mem_cons_of_mem _ hu)
    exact ⟨_, .cons i t r⟩
theorem kindS : ∀ {vs : List Value} {M : Model} {A : Around} {Q : SortKind → Shared → Prop} {E : Value → Shared → Prop} {s : Shared}, (∀ v ∈ vs, ∃ i t, v = Value.str i t) → 2 ≤ vs.length → Q oneType' s → wpAny M A (keyKind' vs.toArray) Q E s
  | v1 :: v2 :: rest, _, _, _, _, _, h, _, q => by
    obtain ⟨ss, r⟩ := strs_of h
    rw [keyKind_strs r]
    exact wpAny_pure q
  | [], _, _, _, _, _, _, h, _ => absurd h (by decide)
  | [v], _, _, _, _, _, _, h, _ => absurd h (by simp)
theorem tups_of {h : Heap} {sh : Nat → Bool} : ∀ {vs : List Value}, (∀ v ∈ vs, ∃ f, TupOf h sh v f) → ∃ fs, TupsOf h sh vs fs ∧ fs.length = vs.length
  | [], _ => ⟨_, .nil, rfl⟩
  | v :: vs, k => by
    obtain ⟨f, hf⟩ := k v List.mem_cons_self
    obtain ⟨fs, r, e⟩ := tups_of fun u hu => k u (List.mem_cons_of_mem _ hu)
    exact ⟨_, .cons hf r, by rw [List.length_cons, List.length_cons, e]⟩
section
variable {X : Cx}
def rSortK (K : PySem.W.Frag) : List V → Hp → VK → Prop := fun vs H Q => ∃ (a : Addr) (xs : List V), vs = [V.ref a] ∧ SqL K H a xs ∧ AllK K H xs ∧
  ∀ (ys : List V) (p : Addr), ys.Perm xs → ys.Pairwise (fun x y => ∀ l m, KV K H x l → KV K H y m → ltK m l = false) → H p = none → Q (.ref p) (upd H p (.lst ys))
theorem kv_at {pins : List (Addr × Obj)} {σ : L2.St} {H : Hp} {s : Shared} (I : Inv X pins σ H s) {t : Addr} {zs : List V} {l : List SK} {sh : Nat → Bool} (h : SqT X.K H t zs) (hl : zs.mapM itK = some l) (hs : ShOk sh 0 l) :
    ∃ o its n, s.heap.get? t = some o ∧ o.cls = .type "tuple" ∧ o.data = .seq its n ∧ tupItems sh 0 its.toList = some l := by
  obtain ⟨its, rv, ⟨o, ho, hc, n, hd⟩, _⟩ := I.tuple h
  exact ⟨o, _, n, ho, hc, hd, tup_items (by simpa using rv) hl hs⟩
theorem first_of {its : List Value} {sh : Nat → Bool} {l : List SK} (h : tupItems sh 0 its = some l) (hl : l ≠ []) : ∃ f, its[0]? = some f ∧ (sh 0 = false → ∃ k t, f = .int k t) ∧ (sh 0 = true → ∃ x t, f = .str x t) := by
  cases its with
  | nil =>
    rw [tupItems] at h
    exact absurd (Option.some.inj h).symm hl
  | cons v r =>
    refine ⟨v, rfl, fun e => ?_, fun e => ?_⟩
    · obtain ⟨n, t, l', rfl, _⟩ := tupItems_int e h
      exact ⟨n, t, rfl⟩
    · obtain ⟨n, t, l', rfl, _⟩ := tupItems_str e h
      exact ⟨n, t, rfl⟩
theorem cr_sortedK : CallR X (.builtin "sorted") (rSortK X.K) := by
  intro pins s σ H vs us Q I r h
  obtain ⟨a, xs, rfl, hs, hx, q⟩ := h
  obtain ⟨its, rv, hl, hz⟩ := I.list hs
  rw [Vals.ref1 r]
  have hp : ∀ x ∈ xs, plX x = true := by
    rcases hx with hx | hx | ⟨sh, hne, hx⟩
    · intro x m
      obtain ⟨i, rfl⟩ := hx x m
      rfl
    · intro x m
      obtain ⟨i, rfl⟩ := hx x m
      rfl
    · intro x m
      obtain ⟨t, zs, l, rfl, _⟩ := hx x m
      rfl
  obtain ⟨e1, e2⟩ := vOf_back rv hp
  have mx : ∀ u ∈ its, vOf u ∈ xs := fun u hu => by rw [e1]; exact List.mem_map.mpr ⟨_, hu, rfl⟩
  obtain ⟨shf, hshf⟩ : ∃ shf : Nat → Bool, ∀ sh : List Bool, (sh ≠ [] ∧ ∀ x ∈ xs, ∃ t zs l, x = .ref t ∧ SqT X.K H t zs ∧ zs.mapM itK = some l ∧ l.map isSt = sh) → ∀ x ∈ xs, ∃ t zs l, x = .ref t ∧ SqT X.K H t zs ∧ zs.mapM itK = some l ∧ ShOk shf 0 l ∧ l ≠ [] := by
    by_cases hex : ∃ sh : List Bool, sh ≠ [] ∧ ∀ x ∈ xs, ∃ t zs l, x = .ref t ∧ SqT X.K H t zs ∧ zs.mapM itK = some l ∧ l.map isSt = sh
    · obtain ⟨sh, hne, hh⟩ := hex
      refine ⟨fun i => sh.getD i false, fun _ _ x m => ?_⟩
      obtain ⟨t, zs, l, rfl, h1, h2, h3⟩ := hh x m
      have := shok_of l []
      rw [List.nil_append, h3] at this
      exact ⟨t, zs, l, rfl, h1, h2, this, fun e => hne (by rw [← h3, e] <;> rfl)⟩
    · exact ⟨fun _ => false, fun sh hh => absurd ⟨sh, hh⟩ hex⟩
  -- the keys at a heap that keeps the objects
  have kt : (∃ sh : List Bool, sh ≠ [] ∧ ∀ x ∈ xs, ∃ t zs l, x = .ref t ∧ SqT X.K H t zs ∧ zs.mapM itK = some l ∧ l.map isSt = sh) → ∀ u ∈ its, ∃ t o ts n l, u = .ref t ∧ s.heap.get? t = some o ∧ o.cls = .type "tuple" ∧ o.data = .seq ts n ∧ tupItems shf 0 ts.toList = some l ∧ l ≠ [] ∧ kv s.heap shf u = l := by
    rintro ⟨sh, hh⟩ u hu
    obtain ⟨t, zs, l, e, h1, h2, h3, h4⟩ := hshf sh hh _ (mx u hu)
    have hu2 := e2 u hu
    cases u with
    | ref b =>
      cases e
      obtain ⟨o, ts, n, g1, g2, g3, g4⟩ := kv_at I h1 h2 h3
      refine ⟨_, o, ts, n, l, rfl, g1, g2, g3, g4, h4, ?_⟩
      show (tupKey s.heap shf (.ref t)).getD [] = l
      rw [tk_ref g1 g3, g4]
      rfl
    | _ => cases e
  have kvk : ∀ u ∈ its, ∀ l, KV X.K H (vOf u) l → kv s.heap shf u = l := by
    intro u hu l hk
    rcases hk with ⟨i, e, rfl⟩ | ⟨i, e, rfl⟩ | ⟨t, zs, e, h1, h2⟩
    · cases u with
      | int j t => cases e; rfl
      | _ => cases e
    · cases u with
      | str j t => cases e; rfl
      | _ => cases e
    · cases u with
      | ref b =>
        cases e
        have ex : ∃ sh : List Bool, sh ≠ [] ∧ ∀ x ∈ xs, ∃ t zs l, x = .ref t ∧ SqT X.K H t zs ∧ zs.mapM itK = some l ∧ l.map isSt = sh := by
          rcases hx with hx | hx | hx
          · obtain ⟨i, e⟩ := hx _ (mx _ hu); cases e
          · obtain ⟨i, e⟩ := hx _ (mx _ hu); cases e
          · exact hx
        obtain ⟨sh, hh⟩ := ex
        obtain ⟨t, o, ts, n, l', e, g1, g2, g3, g4, g5, g6⟩ := kt ⟨sh, hh⟩ _ hu
        cases e
        rw [g6]
        obtain ⟨t', zs', l2, e', k1, k2, k3, k4⟩ := hshf sh hh _ (mx _ hu)
        cases e'
        obtain ⟨its1, rv1, ⟨o1, ho1, hc1, n1, hd1⟩, _⟩ := I.tuple h1
        obtain ⟨its2, rv2, ⟨o2, ho2, hc2, n2, hd2⟩, _⟩ := I.tuple k1
        rw [g1] at ho1 ho2
        cases ho1
        cases ho2
        rw [g3] at hd1 hd2
        cases hd1
        cases hd2
        have w2 := tup_items rv2 k2 k3
        rw [g4] at w2
        cases w2
        -- two readings of the same values
        have det : ∀ {zs zs' : List V} {us : List Value} {l m : List SK}, Vals zs us → Vals zs' us → zs.mapM itK = some l → zs'.mapM itK = some m → l = m := by
          intro zs
          induction zs with
          | nil =>
            intro zs' us l m r1 r2 q1 q2
            cases r1
            cases r2
            rw [q1] at q2
            exact Option.some.inj q2
          | cons z zs ih =>
            intro zs' us l m r1 r2 q1 q2
            cases r1 with
            | cons ra rb =>
              cases r2 with
              | cons rc rd =>
                rename_i z' zs2
                rw [List.mapM_cons] at q1 q2
                cases hz : itK z with
                | none => rw [hz] at q1; cases q1
                | some k =>
                  cases hz' : itK z' with
                  | none => rw [hz'] at q2; cases q2
                  | some k' =>
                    cases hr : zs.mapM itK with
                    | none => rw [hz, hr] at q1; cases q1
                    | some l1 =>
                      cases hr' : zs2.mapM itK with
                      | none => rw [hz', hr'] at q2; cases q2
                      | some l2 =>
                        rw [hz, hr] at q1
                        rw [hz', hr'] at q2
                        cases q1
                        cases q2
                        have := ih rb rd hr hr'
                        have ek : k = k' := by
                          cases z with
                          | int i =>
                            obtain ⟨t, rfl⟩ := ra
                            cases hz
                            cases z' with
                            | int j => obtain ⟨t, e⟩ := rc; cases e; cases hz'; rfl
                            | str j => obtain ⟨t, e⟩ := rc; cases e
                            | _ => cases hz'
                          | str i =>
                            obtain ⟨t, rfl⟩ := ra
                            cases hz
                            cases z' with
                            | str j => obtain ⟨t, e⟩ := rc; cases e; cases hz'; rfl
                            | int j => obtain ⟨t, e⟩ := rc; cases e
                            | _ => cases hz'
                          | _ => cases hz
                        rw [ek, this]
        exact det rv2 rv1 k2 h2
      | _ => cases e
  refine SrtO.sorted_ord (ltv := fun u v => ltK (kv s.heap shf u) (kv s.heap shf v)) (swo_kv s.heap shf) hl.isList (by rw [← rv.length]; exact hz) (fun h2 h₁ a' ha' keep => ?_) fun out h1 h2 => ?_
  · intro h' keep'
    rcases hx with hx | hx | hx
    · have hi : ∀ v ∈ its, ∃ i t, v = Value.int i t := fun v hv => by
        obtain ⟨i, e⟩ := hx _ (mx v hv)
        cases v with
        | int j t => exact ⟨j, t, rfl⟩
        | _ => cases e
      refine ⟨oneType', fun Q E hq => kindI hi h2 hq, fun p p' hm hm' => ?_⟩
      obtain ⟨i, t, e⟩ := hi _ hm
      obtain ⟨i', t', e'⟩ := hi _ hm'
      show wpAny _ _ (keyLt' oneType' p.1 p'.1) (fun r s' => s' = _ ∧ r = ltK (kv s.heap shf p.1) (kv s.heap shf p'.1)) _ _
      rw [e, e', keyLt'_oneType]
      exact oneLt_int ⟨rfl, (lt_inl i i').symm⟩
    · have hi : ∀ v ∈ its, ∃ i t, v = Value.str i t := fun v hv => by
        obtain ⟨i, e⟩ := hx _ (mx v hv)
        cases v with
        | str j t => exact ⟨j, t, rfl⟩
        | _ => cases e
      refine ⟨oneType', fun Q E hq => kindS hi h2 hq, fun p p' hm hm' => ?_⟩
      obtain ⟨i, t, e⟩ := hi _ hm
      obtain ⟨i', t', e'⟩ := hi _ hm'
      show wpAny _ _ (keyLt' oneType' p.1 p'.1) (fun r s' => s' = _ ∧ r = ltK (kv s.heap shf p.1) (kv s.heap shf p'.1)) _ _
      rw [e, e', keyLt'_oneType]
      exact oneLt_str ⟨rfl, (lt_inr i.cps.toList i'.cps.toList).symm⟩
    · have kt2 := kt hx
      have at' : ∀ t o, s.heap.get? t = some o → o.cls = .type "tuple" → h'.get? t = some o := fun t o e c => by
        obtain ⟨n1, n2⟩ := keep t o e
        exact keep' t o n1 n2
      refine ⟨tuples' true, fun Q E hq => ?_, fun p p' hm hm' => ?_⟩
      · obtain ⟨fs, hfs, hlen⟩ := tups_of (h := h') (sh := shf) (vs := its) fun v hv => by
          obtain ⟨t, o, ts, n, l, rfl, g1, g2, g3, g4, g5, g6⟩ := kt2 v hv
          obtain ⟨f, k1, k2, k3⟩ := first_of g4 g5
          exact ⟨f, t, o, ts, n, rfl, at' t o g1 g2, g2, g3, by simpa using k1, k2, k3⟩
        exact tup_kind (shape := shf) (by rw [hlen]; exact Nat.lt_of_lt_of_le (by decide) h2) hfs hq
      · obtain ⟨t, o, ts, n, l, e, g1, g2, g3, g4, g5, g6⟩ := kt2 _ hm
        obtain ⟨t', o', ts', n', l', e', g1', g2', g3', g4', g5', g6'⟩ := kt2 _ hm'
        show wpAny _ _ (keyLt' (tuples' true) p.1 p'.1) (fun r s' => s' = _ ∧ r = ltK (kv s.heap shf p.1) (kv s.heap shf p'.1)) _ _
        rw [g6, g6', e, e']
        refine tup_ltAt (shape := shf) true _ _ _ _ l l' ?_ ?_ ⟨rfl, rfl⟩
        · show tupKey h' shf (.ref t) = some l
          rw [tk_ref (at' t o g1 g2) g3]
          exact g4
        · show tupKey h' shf (.ref t') = some l'
          rw [tk_ref (at' t' o' g1' g2') g3']
          exact g4'
  · obtain ⟨ep, he'⟩ := PyProof.Rows.sortedAll_at s.heap its out.toArray
    have h3 : ∀ u ∈ out, plV u = true := fun u hu => e2 u (h2.perm.mem_iff.mp hu)
    have hpm : (out.map vOf).Perm xs := by rw [e1]; exact h2.perm.map vOf
    have hlen : (out.map vOf).length ≤ sizeLine := by rw [hpm.length_eq]; exact hz
    refine ⟨.ref _, upd H (s.heap.objs.size + 1) (.lst (out.map vOf)), I.laid (t' := s.toks) (fun _ _ => PyProof.Rows.sortedAll_old) (Nat.le_succ _) ⟨hlen, out, ep, vals_vOf h3, he'⟩, rfl, q _ _ hpm ?_ (I.hok.fresh (Nat.le_succ _))⟩
    rw [List.pairwise_map]
    refine List.Pairwise.imp_of_mem (fun {u v} mu mv huv n m hn hm => ?_) h1
    rw [← kvk u (h2.perm.mem_iff.mp mu) n hn, ← kvk v (h2.perm.mem_iff.mp mv) m hm]
    exact huv
end
end DL

/-! DMG: sorted at D. -/
namespace DL
open PySem PySem.Spec PyProof.Rows L2 Evl
def keyIt : D → Option SK
  | .int i => some (.inl i)
  | .str s => some (.inr s.cps.toList)
  | _ => none
def keyT : D → Option (List SK)
  | .int i => some [.inl i]
  | .str s => some [.inr s.cps.toList]
  | .tup ds => ds.mapM keyIt
  | _ => none
def kk (d : D) : List SK := (keyT d).getD []
def isI : D → Bool
  | .int _ => true
  | _ => false
def isS : D → Bool
  | .str _ => true
  | _ => false
def shOf : D → Option (List Bool)
  | .tup ds => (ds.mapM keyIt).map fun l => l.map isSt
  | _ => none
def okSort (ds : List D) : Bool := ds.all isI || ds.all isS || (match ds with
  | d :: _ => (match shOf d with
    | some (b :: sh) => ds.all fun e => shOf e == some (b :: sh)
    | _ => false)
  | [] => true)
def sleD (a b : D) : Bool := !ltK (kk b) (kk a)
def sortD (ds : List D) : Option (List D) := if okSort ds = true then some (ds.mergeSort sleD) else none
theorem sleD_trans (a b c : D) (h1 : sleD a b = true) (h2 : sleD b c = true) : sleD a c = true := by
  unfold sleD at *
  rw [Bool.not_eq_true'] at *
  cases e : ltK (kk c) (kk a) with
  | false => rfl
  | true =>
    rcases lex_negTrans _ (kk b) _ e with w | w
    · exact absurd (h2.symm.trans w) (by decide)
    · exact absurd (h1.symm.trans w) (by decide)
theorem sleD_total (a b : D) : (sleD a b || sleD b a) = true := by
  unfold sleD
  cases e : ltK (kk b) (kk a) with
  | false => rfl
  | true =>
    cases e2 : ltK (kk a) (kk b) with
    | false => rfl
    | true =>
      have := lex_trans _ _ _ e e2
      rw [lex_irrefl] at this
      cases this
/-- d has a key, which names it -/
def okKD (d : D) : Prop := isI d = true ∨ isS d = true ∨ (shOf d).isSome = true
theorem okSort_mem {ds : List D} (h : okSort ds = true) : (∀ d ∈ ds, isI d = true) ∨ (∀ d ∈ ds, isS d = true) ∨ ∃ sh, sh ≠ [] ∧ ∀ d ∈ ds, shOf d = some sh := by
  unfold okSort at h
  rw [Bool.or_eq_true, Bool.or_eq_true] at h
  rcases h with (h | h) | h
  · exact .inl (List.all_eq_true.mp h)
  · exact .inr (.inl (List.all_eq_true.mp h))
  · cases ds with
    | nil => exact .inl fun d m => nomatch m
    | cons d ds =>
      simp only at h
      split at h
      · rename_i b sh hsh
        exact .inr (.inr ⟨b :: sh, (by simp), fun e m => by
          have := List.all_eq_true.mp h e m
          exact eq_of_beq this⟩)
      · cases h
theorem str_inj {a b : Str} (h : a.cps.toList = b.cps.toList) : a = b := by
  have hc : a.cps = b.cps := Array.toList_inj.mp h
  cases a; cases b
  simp only [Str.mk.injEq]
  exact hc
theorem keyIt_inj {a b : D} {k : SK} (h1 : keyIt a = some k) (h2 : keyIt b = some k) : a = b := by
  cases a with
  | int i =>
    cases h1
    cases b with
    | int j => cases h2; rfl
    | str j => cases h2
    | _ => cases h2
  | str i =>
    have e1 : Sum.inr i.cps.toList = k := Option.some.inj h1
    subst e1
    cases b with
    | int j => cases h2
    | str j =>
      have e2 : (Sum.inr j.cps.toList : SK) = Sum.inr i.cps.toList := Option.some.inj h2
      rw [str_inj (Sum.inr.inj e2)]
    | _ => cases h2
  | _ => cases h1
theorem mapM_cons' {α β : Type} {f : α → Option β} {a : α} {as : List α} {l : List β} (h : (a :: as).mapM f = some l) : ∃ b bs, f a = some b ∧ as.mapM f = some bs ∧ l = b :: bs := by
  rw [List.mapM_cons] at h
  cases ha : f a with
  | none => rw [ha] at h; cases h
  | some b =>
    cases hb : as.mapM f with
    | none => rw [ha, hb] at h; cases h
    | some bs => rw [ha, hb] at h; cases h; exact ⟨b, bs, rfl, rfl, rfl⟩
theorem mapM_inj : ∀ {as bs : List D} {l : List SK}, as.mapM keyIt = some l → bs.mapM keyIt = some l → as = bs
  | [], [], _, _, _ => rfl
  | [], b :: bs, l, h1, h2 => by
    have e : [] = l := Option.some.inj (show some [] = some l by rw [← h1]; rfl)
    obtain ⟨_, _, _, _, e2⟩ := mapM_cons' h2
    rw [← e] at e2
    cases e2
  | a :: as, [], l, h1, h2 => by
    have e : [] = l := Option.some.inj (show some [] = some l by rw [← h2]; rfl)
    obtain ⟨_, _, _, _, e2⟩ := mapM_cons' h1
    rw [← e] at e2
    cases e2
  | a :: as, b :: bs, l, h1, h2 => by
    obtain ⟨k, ks, g1, g2, rfl⟩ := mapM_cons' h1
    obtain ⟨k', ks', g3, g4, e⟩ := mapM_cons' h2
    cases e
    rw [keyIt_inj g1 g3, mapM_inj g2 g4]
theorem kk_inj {ds : List D} (h : okSort ds = true) {a b : D} (ha : a ∈ ds) (hb : b ∈ ds) (e : kk a = kk b) : a = b := by
  rcases okSort_mem h with h | h | ⟨sh, hne, h⟩
  · have h1 := h a ha
    have h2 := h b hb
    cases a with
    | int i =>
      cases b with
      | int j =>
        have e' : [(Sum.inl i : SK)] = [Sum.inl j] := e
        cases e'
        rfl
      | _ => cases h2
    | _ => cases h1
  · have h1 := h a ha
    have h2 := h b hb
    cases a with
    | str i =>
      cases b with
      | str j =>
        have e' : [(Sum.inr i.cps.toList : SK)] = [Sum.inr j.cps.toList] := e
        injection e' with e'
        rw [str_inj (Sum.inr.inj e')]
      | _ => cases h2
    | _ => cases h1
  · have h1 := h a ha
    have h2 := h b hb
    cases a with
    | tup as =>
      cases b with
      | tup bs =>
        have w1 : (as.mapM keyIt).map (fun l => l.map isSt) = some sh := h1
        have w2 : (bs.mapM keyIt).map (fun l => l.map isSt) = some sh := h2
        obtain ⟨l1, q1, _⟩ := Option.map_eq_some_iff.mp w1
        obtain ⟨l2, q2, _⟩ := Option.map_eq_some_iff.mp w2
        have e' : (as.mapM keyIt).getD [] = (bs.mapM keyIt).getD [] := e
        rw [q1, q2] at e'
        have e2 : l1 = l2 := e'
        subst e2
        rw [mapM_inj q1 q2]
      | _ => cases h2
    | _ => cases h1
theorem sleD_anti {ds : List D} (h : okSort ds = true) {a b : D} (ha : a ∈ ds) (hb : b ∈ ds) (h1 : sleD a b = true) (h2 : sleD b a = true) : a = b := by
  unfold sleD at h1 h2
  rw [Bool.not_eq_true'] at h1 h2
  exact kk_inj h ha hb (lex_total _ _ h2 h1)
/-- the sorted list is the one sorted rearrangement -/
theorem sortD_eq {ds es : List D} (h : okSort ds = true) (hp : es.Perm ds) (hs : es.Pairwise fun a b => sleD a b = true) : ds.mergeSort sleD = es :=
  List.Perm.eq_of_pairwise (le := fun a b => sleD a b = true) (fun a b ha hb h1 h2 => sleD_anti h (List.mergeSort_perm ds sleD |>.mem_iff.mp ha) (hp.mem_iff.mp hb) h1 h2) (List.pairwise_mergeSort sleD_trans sleD_total ds) hs ((List.mergeSort_perm ds sleD).trans hp.symm)
theorem okSort_of {ds : List D} (h : (∀ d ∈ ds, isI d = true) ∨ (∀ d ∈ ds, isS d = true) ∨ ∃ sh, sh ≠ [] ∧ ∀ d ∈ ds, shOf d = some sh) : okSort ds = true := by
  unfold okSort
  rcases h with h | h | ⟨sh, hne, h⟩
  · rw [List.all_eq_true.mpr h]; rfl
  · rw [List.all_eq_true.mpr h, Bool.or_true]; rfl
  · rw [Bool.or_eq_true]
    right
    cases ds with
    | nil => rfl
    | cons d ds =>
      have h0 := h d List.mem_cons_self
      cases sh with
      | nil => exact absurd rfl hne
      | cons b sh =>
        simp only [h0]
        exact List.all_eq_true.mpr fun e m => by rw [h e m]; exact beq_self_eq_true _
theorem okSort_perm {ds es : List D} (hp : es.Perm ds) (h : okSort ds = true) : okSort es = true := by
  refine okSort_of ?_
  rcases okSort_mem h with h | h | ⟨sh, hne, h⟩
  · exact .inl fun d m => h d (hp.mem_iff.mp m)
  · exact .inr (.inl fun d m => h d (hp.mem_iff.mp m))
  · exact .inr (.inr ⟨sh, hne, fun d m => h d (hp.mem_iff.mp m)⟩)
theorem sortD_perm {ds es : List D} (hp : es.Perm ds) (h : okSort ds = true) : sortD es = sortD ds := by
  unfold sortD
  rw [if_pos h, if_pos (okSort_perm hp h)]
  rw [sortD_eq (okSort_perm hp h) ((List.mergeSort_perm ds sleD).trans hp.symm) (List.pairwise_mergeSort sleD_trans sleD_total ds)]
/-! ### the rule -/
theorem reps_perm {K : KB} {F : Hp} {xs ys : List V} (p : xs.Perm ys) : ∀ {ds : List D}, Reps K F ds xs → ∃ es, ds.Perm es ∧ Reps K F es ys := by
  induction p with
  | nil => intro ds h; exact ⟨ds, .refl _, h⟩
  | cons x p ih =>
    intro ds h
    cases ds with
    | nil => cases h
    | cons d ds =>
      obtain ⟨v, vs, e, h1, h2⟩ := h
      cases e
      obtain ⟨es, p1, h3⟩ := ih h2
      exact ⟨d :: es, p1.cons d, _, _, rfl, h1, h3⟩
  | swap x y l =>
    intro ds h
    match ds, h with
    | [], h => cases h
    | [d], h => obtain ⟨v, vs, e, h1, h2⟩ := h; cases e; cases h2
    | d :: d' :: ds, h =>
      obtain ⟨v, vs, e, h1, v', vs', e', h2, h3⟩ := h
      cases e
      cases e'
      exact ⟨d' :: d :: ds, .swap _ _ _, _, _, rfl, h2, _, _, rfl, h1, h3⟩
  | trans p q ih1 ih2 =>
    intro ds h
    obtain ⟨es, p1, h1⟩ := ih1 h
    obtain ⟨fs, p2, h2⟩ := ih2 h1
    exact ⟨fs, p1.trans p2, h2⟩
theorem reps_mem {K : KB} {F : Hp} : ∀ {ds : List D} {xs : List V}, Reps K F ds xs → ∀ d ∈ ds, ∃ x ∈ xs, Rep K F d x
  | [], _, _, d, m => nomatch m
  | e :: ds, xs, h, d, m => by
    obtain ⟨v, vs, rfl, h1, h2⟩ := h
    rcases List.mem_cons.mp m with q | m
    · rw [q]; exact ⟨v, List.mem_cons_self, h1⟩
    · obtain ⟨x, mx, hx⟩ := reps_mem h2 d m
      exact ⟨x, List.mem_cons_of_mem _ mx, hx⟩
theorem reps_mem2 {K : KB} {F : Hp} : ∀ {ds : List D} {xs : List V}, Reps K F ds xs → ∀ x ∈ xs, ∃ d ∈ ds, Rep K F d x
  | [], _, h, x, m => by cases h; cases m
  | e :: ds, xs, h, x, m => by
    obtain ⟨v, vs, rfl, h1, h2⟩ := h
    rcases List.mem_cons.mp m with q | m
    · rw [q]; exact ⟨e, List.mem_cons_self, h1⟩
    · obtain ⟨d, md, hd⟩ := reps_mem2 h2 x m
      exact ⟨d, List.mem_cons_of_mem _ md, hd⟩
theorem keyIt_itK : ∀ {ds : List D} {l : List SK} {K : KB} {F : Hp} {zs : List V}, ds.mapM keyIt = some l → Reps K F ds zs → zs.mapM itK = some l
  | [], l, _, _, zs, h, r => by cases r; exact h
  | d :: ds, l, K, F, zs, h, r => by
    obtain ⟨k, ks, h1, h2, rfl⟩ := mapM_cons' h
    obtain ⟨v, vs, rfl, r1, r2⟩ := r
    have q := keyIt_itK h2 r2
    have : itK v = some k := by
      cases d with
      | int i => cases r1; exact h1
      | str i => cases r1; exact h1
      | _ => cases h1
    rw [List.mapM_cons, this, q]
    rfl
theorem kv_of {K : KB} {F H : Hp} (fh : Ex F H) {d : D} {x : V} {l : List SK} (r : Rep K F d x) (h : keyT d = some l) : KV K.K H x l := by
  cases d with
  | int i => cases r; cases h; exact .inl ⟨i, rfl, rfl⟩
  | str i => cases r; cases h; exact .inr (.inl ⟨i, rfl, rfl⟩)
  | tup ds =>
    obtain ⟨a, zs, rfl, h1, h2⟩ := r
    exact .inr (.inr ⟨a, zs, rfl, ex_t fh h1, keyIt_itK h h2⟩)
  | _ => cases h
theorem okKey_some {ds : List D} (h : okSort ds = true) : ∀ d ∈ ds, keyT d = some (kk d) := by
  intro d m
  rcases okSort_mem h with h | h | ⟨sh, hne, h⟩
  · have := h d m
    cases d with
    | int i => rfl
    | _ => cases this
  · have := h d m
    cases d with
    | str i => rfl
    | _ => cases this
  · have := h d m
    cases d with
    | tup ds =>
      obtain ⟨l, q, _⟩ := Option.map_eq_some_iff.mp (show (ds.mapM keyIt).map (fun l => l.map isSt) = some sh from this)
      show ds.mapM keyIt = some ((ds.mapM keyIt).getD [])
      rw [q]
      rfl
    | _ => cases this
theorem allK_of {K : KB} {F H : Hp} (fh : Ex F H) {ds : List D} {xs : List V} (r : Reps K F ds xs) (h : okSort ds = true) : AllK K.K H xs := by
  rcases okSort_mem h with h | h | ⟨sh, hne, h⟩
  · refine .inl fun x m => ?_
    obtain ⟨d, md, hd⟩ := reps_mem2 r x m
    have := h d md
    cases d with
    | int i => cases hd; exact ⟨i, rfl⟩
    | _ => cases this
  · refine .inr (.inl fun x m => ?_)
    obtain ⟨d, md, hd⟩ := reps_mem2 r x m
    have := h d md
    cases d with
    | str i => cases hd; exact ⟨i, rfl⟩
    | _ => cases this
  · refine .inr (.inr ⟨sh, hne, fun x m => ?_⟩)
    obtain ⟨d, md, hd⟩ := reps_mem2 r x m
    have := h d md
    cases d with
    | tup ds =>
      obtain ⟨l, q, e⟩ := Option.map_eq_some_iff.mp (show (ds.mapM keyIt).map (fun l => l.map isSt) = some sh from this)
      obtain ⟨a, zs, rfl, h1, h2⟩ := hd
      exact ⟨a, zs, l, rfl, ex_t fh h1, keyIt_itK q h2, e⟩
    | _ => cases this
theorem pw_of {K : KB} {F H : Hp} (fh : Ex F H) : ∀ {ds : List D} {xs : List V}, Reps K F ds xs → (∀ d ∈ ds, keyT d = some (kk d)) → xs.Pairwise (fun x y => ∀ l m, KV K.K H x l → KV K.K H y m → ltK m l = false) → ds.Pairwise fun a b => sleD a b = true
  | [], _, _, _, _ => .nil
  | d :: ds, xs, r, h, p => by
    obtain ⟨v, vs, rfl, r1, r2⟩ := r
    obtain ⟨p1, p2⟩ := List.pairwise_cons.mp p
    refine List.pairwise_cons.mpr ⟨fun e me => ?_, pw_of fh r2 (fun d m => h d (List.mem_cons_of_mem _ m)) p2⟩
    obtain ⟨y, my, ry⟩ := reps_mem r2 e me
    have := p1 y my _ _ (kv_of fh r1 (h d List.mem_cons_self)) (kv_of fh ry (h e (List.mem_cons_of_mem _ me)))
    unfold sleD
    rw [this]
    rfl
def dsorted (d : Den O) : Den Rv := dbind d fun o => dlift (((lsqV o).bind sortD).map fun ds => Rv.new (.lst (ds.map O.im)))
section
variable {X : Cx} {W : WX} {a : Expr} {x : Str} {p pos : Pos}
theorem de_sorted {d : Den O} (hg : Gl X x) (hm : X.mg x = none) (hv : bootBuiltins x = some (.builtin "sorted")) (ha : DO X W a d) (hn : x ≠ "__name__" := by decide) (hdb : (x == ("__debug__" : Str)) = false := by decide)
    (he : starEach (a :: []) X.env = (false, eval a X.env) :: starEach [] X.env := by rfl) (hpl : (backTo pos (starEach [] X.env)).any (·.1) = false := by rfl) : DE X W (.Call (.Name x p) [a] [] pos) (dsorted d) :=
  ⟨pe_weak (pe_callB cr_sortedK hg hm hv (pa_cons ha.run pa_nil he) hn hdb he hpl) fun σ H Q q => by
    obtain ⟨c, F, e, ts, R, q⟩ := q
    refine ⟨c, F, e, ts, R, q.bind (rel := relW) fun F1 H1 e1 o v ef hr q1 => ?_⟩
    obtain ⟨z, hz, k⟩ := q1.lift
    obtain ⟨ds, hd, rfl⟩ := Option.map_eq_some_iff.mp hz
    obtain ⟨d0, hd0, hd1⟩ := Option.bind_eq_some_iff.mp hd
    obtain ⟨R1, fs, ho⟩ := hr
    obtain ⟨p', xs, rfl, hrs, hsq⟩ := lsqV_ok R1.fh ho hd0
    unfold sortD at hd1
    split at hd1
    · rename_i hok
      cases hd1
      refine ⟨p', xs, rfl, hsq, allK_of R1.fh hrs hok, fun ys l hp hpw hl => ?_⟩
      obtain ⟨es, pe, re⟩ := reps_perm hp.symm hrs
      have hes := okSort_perm pe.symm hok
      rw [sortD_eq hok pe.symm (pw_of R1.fh re (okKey_some hes) hpw)] at k
      exact k F1 _ (.ref l) (Ex.refl _) (Ex.new hl) (R1.newO hl ⟨l, ys, [], rfl, rfl, upd_same, owns_im re⟩)
    · cases hd1⟩
end
end DL

/-! DMH: written constants, defaults, isinstance of own classes. -/
namespace DL
open PySem PySem.Spec PyProof.Rows L2 Evl
/-! ### what the written part holds -/
def WR (K : PySem.W.Frag) (d : D) (u : Value) : Prop := ∃ v, RelV v u ∧ ∀ (k : KB) (F : Hp), k.K = K → Rep k F d v
def WRs (K : PySem.W.Frag) (ds : List D) (us : List Value) : Prop := ∃ vs, Vals vs us ∧ ∀ (k : KB) (F : Hp), k.K = K → Reps k F ds vs
section
variable {K : PySem.W.Frag}
theorem WR.int {i : Int} {t : Tok} : WR K (.int i) (.int i t) := ⟨.int i, ⟨t, rfl⟩, fun _ _ _ => rfl⟩
theorem WR.str {i : Str} {t : Tok} : WR K (.str i) (.str i t) := ⟨.str i, ⟨t, rfl⟩, fun _ _ _ => rfl⟩
theorem WR.non : WR K .non .none := ⟨.non, rfl, fun _ _ _ => rfl⟩
theorem WR.bl {b : Bool} : WR K (.bl b) (.bool b) := ⟨.bl b, rfl, fun _ _ _ => rfl⟩
theorem WR.adr {C : Addr} : WR K (.adr C) (.ref C) := ⟨.ref C, rfl, fun _ _ _ => rfl⟩
theorem WRs.nil : WRs K [] [] := ⟨[], .nil, fun _ _ _ => rfl⟩
theorem WRs.cons {d : D} {ds : List D} {u : Value} {us : List Value} (h : WR K d u) (r : WRs K ds us) : WRs K (d :: ds) (u :: us) := by
  obtain ⟨v, h1, h2⟩ := h
  obtain ⟨vs, r1, r2⟩ := r
  exact ⟨v :: vs, .cons h1 r1, fun k F e => ⟨v, vs, rfl, h2 k F e, r2 k F e⟩⟩
theorem WR.tup {T : Addr} {od : Option Addr} {us : List Value} {n : Nat} {sl : Array (Option Value)} {ds : List D} (l : K.lookup T = some ⟨.type "tuple", od, .seq us.toArray n, sl⟩) (r : WRs K ds us) (hz : us.length ≤ sizeLine := by decide +kernel) : WR K (.tup ds) (.ref T) := by
  obtain ⟨vs, r1, r2⟩ := r
  refine ⟨.ref T, rfl, fun k F e => ⟨T, vs, rfl, .inr ⟨_, us.toArray, n, by rw [e]; exact l, rfl, rfl, by simpa using hz, by simpa using r1⟩, r2 k F e⟩⟩
theorem reps_drop {k : KB} {F : Hp} : ∀ (j : Nat) {ds : List D} {vs : List V}, Reps k F ds vs → Reps k F (ds.drop j) (vs.drop j)
  | 0, _, _, h => h
  | j + 1, [], vs, h => by rw [show vs = [] from h]; exact rfl
  | j + 1, d :: ds, vs, h => by
    obtain ⟨x, r, e, e1, e2⟩ := h
    subst e
    exact reps_drop j e2
/-- a def's defaults: the ones behind the first j -/
def DB (K : PySem.W.Frag) (fd : FuncData) (ps : List Str) (dd : List D) : Prop := ∃ (ds : List Value) (dvs : List V), Binds K fd ps ds ∧ Vals dvs ds ∧ (∀ k : KB, k.K = K → Dfl k dd dvs) ∧ ds.length = dd.length
theorem dbinds {x qual : Str} {st : Stmt} {ps : List Str} {f T : Addr} {od odT an : Option Addr} {oc oT kV doc pm cdv ct : Value} {sl slT : Array (Option Value)} {us : List Value} {nT : Nat} {dd : List D} (P : Program) (w : World) (n j : Nat)
    (l : K.lookup f = some ⟨oc, od, .func (PySem.W.fnOf x qual (defArgs st) (defBody st) (defScope st) (.ref T) kV doc pm an cdv ct), sl⟩) (lT : K.lookup T = some ⟨oT, odT, .seq us.toArray nT, slT⟩) (W : WRs K dd us)
    (c : PySem.W.codeIn K cdv qual = true) (k : PySem.W.keepIn K (.ref f) = true) (hd : dd ≠ []) (hn : n + (dd.length - j) = ps.length)
    (h : ∀ (T : Addr) (kV doc pm : Value) (an : Option Addr) (cdv ct : Value) (us its : List Value), us.length = n → its.length = dd.length →
      ∃ k, bindArgs (PySem.W.fnOf x qual (defArgs st) (defBody st) (defScope st) (.ref T) kV doc pm an cdv ct) ⟨us, []⟩ = seqItems? (.ref T) >>= k ∧ k (some its.toArray) = pure (ps.zip (us ++ its.drop j))) :
    DB K (PySem.W.fnOf x qual (defArgs st) (defBody st) (defScope st) (.ref T) kV doc pm an cdv ct) ps (dd.drop j) := by
  obtain ⟨vs, r1, r2⟩ := W
  have hlen : vs.length = dd.length := ((r2 ⟨K, P, w, fun _ => none⟩ (fun _ => none) rfl).length).symm
  have hv : vs ≠ [] := fun e => hd (List.length_eq_zero_iff.mp (by rw [← hlen, e]; rfl))
  obtain ⟨ds, h1, h2⟩ := FunD.binds1 (K := K) (x := x) (qual := qual) (params := defArgs st) (body := defBody st) (scope := defScope st) (dvs := vs) (kws := []) (f := f) (ps := ps)
    ⟨⟨oc, od, .ref T, kV, doc, pm, an, cdv, ct, sl, rfl, l, c, .inr ⟨hv, T, _, us, nT, rfl, lT, rfl, r1⟩, .inl rfl⟩, k⟩ n j hv (by rw [hlen]; exact hn) (fun T kV doc pm an cdv ct us its e1 e2 => h T kV doc pm an cdv ct us its e1 (by rw [e2, hlen]))
  refine ⟨ds, vs.drop j, h2, h1, fun k e F => ?_, by rw [← h1.length, List.length_drop, List.length_drop, hlen]⟩
  exact reps_drop _ (r2 k F e)
theorem db_full {fd : FuncData} {ps : List Str} (b : DB K fd ps []) : Binds K fd ps [] := by
  obtain ⟨ds, dvs, h, _, _, hl⟩ := b
  have e : ds = [] := List.length_eq_zero_iff.mp hl
  rw [e] at h
  exact h
theorem db0 {fd : FuncData} {ps : List Str} (b : Binds K fd ps []) : DB K fd ps [] := ⟨[], [], b, .nil, fun _ _ _ => rfl, rfl⟩
end
section
variable {X : Cx} {W : WX} {pos p apos : Pos} {x m : Str} {a : Expr} {es : List Expr}
/-- a written constant of the module -/
theorem di_g {d : D} (hg : Gl X x) (hm : ∃ u, X.mg x = some u ∧ WR X.K d u) (hd : (x == ("__debug__" : Str)) = false := by decide) : DI X W (.Name x pos) (dpure d) := by
  obtain ⟨u, hm, v, h1, h2⟩ := hm
  exact di_c (pe_glob (v := v) hg hm h1 hd) fun F => h2 _ F rfl
/-- isinstance(x, C) -/
def isiC (C : Addr) : List D → Option D
  | [.ins C1 _ _, .adr a] => if a = C ∧ C1 = C then some (.bl true) else none
  | [.tup _, .adr a] => if a = C then some (.bl false) else none
  | _ => none
structure IsF (K : PySem.W.Frag) (C : Addr) : Prop where
  cls : Cls K C
  cc : PySem.W.findIn K (.ref C) "__class__" = some (some (.builtin "object.__class__"))
  cg : PySem.W.specialIn K (.builtin "object.__class__") "__get__" = some (some (.builtin "getset_descriptor.__get__"))
  ct : PySem.W.takesIn K (.builtin "object.__class__") = some true
  mr : PySem.W.mroIn K C (.type "object") = some true
  own : PySem.W.kitOne K (.ref C) (.ref C) = some true
  tup : PySem.W.kitOne K (.type "tuple") (.ref C) = some false
theorem ok_isiC {K : KB} {C : Addr} (S : IsF K.K C) : CallOkV K (rIsi K) (isiC C) := by
  intro H xs ds d h hg
  unfold isiC at hg
  split at hg
  · split at hg
    · rename_i e
      obtain ⟨e1, e2⟩ := e
      cases hg
      subst e1
      subst e2
      obtain ⟨v, v2, rfl, g1, g2⟩ := reps2 h
      obtain ⟨b, dx, ys, rfl, g3, g4, g5⟩ := g1
      exact ⟨.bl true, fun _ => rfl, fun Q q => ⟨_, v2, _, _, true, rfl, by rw [show v2 = V.ref _ from g2]; exact .own _, .base (.ins g3 S.cls S.cc S.cg S.ct S.mr), S.own, q⟩⟩
    · cases hg
  · split at hg
    · rename_i e
      cases hg
      subst e
      obtain ⟨v, v2, rfl, g1, g2⟩ := reps2 h
      obtain ⟨b, ys, rfl, g3, g4⟩ := g1
      exact ⟨.bl false, fun _ => rfl, fun Q q => ⟨_, v2, _, _, false, rfl, by rw [show v2 = V.ref _ from g2]; exact .own _, tyT g3, S.tup, q⟩⟩
    · cases hg
  · cases hg
end
end DL

/-! DMI: data that compares as it is written. -/
namespace DL
open PySem PySem.Spec PyProof.Rows L2 Evl
mutual
def plP : PyData → Bool
  | .none => true
  | .bool _ => false
  | .int _ => true
  | .str _ => true
  | .list xs => plPs xs
  | .tuple xs => plPs xs
  | .dict _ => false
def plPs : List PyData → Bool
  | [] => true
  | x :: xs => plP x && plPs xs
end
mutual
theorem eqv_pl : ∀ p q : PyData, plP p = true → plP q = true → (PyData.eqv p q = true ↔ p = q)
  | .none, .none, _, _ => by simp [PyData.eqv]
  | .none, .int _, _, _ => by simp [PyData.eqv]
  | .none, .str _, _, _ => by simp [PyData.eqv]
  | .none, .list _, _, _ => by simp [PyData.eqv]
  | .none, .tuple _, _, _ => by simp [PyData.eqv]
  | .int _, .none, _, _ => by simp [PyData.eqv]
  | .int i, .int j, _, _ => by simp [PyData.eqv]
  | .int _, .str _, _, _ => by simp [PyData.eqv]
  | .int _, .list _, _, _ => by simp [PyData.eqv]
  | .int _, .tuple _, _, _ => by simp [PyData.eqv]
  | .str _, .none, _, _ => by simp [PyData.eqv]
  | .str _, .int _, _, _ => by simp [PyData.eqv]
  | .str x, .str y, _, _ => by simp [PyData.eqv]
  | .str _, .list _, _, _ => by simp [PyData.eqv]
  | .str _, .tuple _, _, _ => by simp [PyData.eqv]
  | .list _, .none, _, _ => by simp [PyData.eqv]
  | .list _, .int _, _, _ => by simp [PyData.eqv]
  | .list _, .str _, _, _ => by simp [PyData.eqv]
  | .list xs, .list ys, h, k => by
    rw [PyData.eqv, eqvs_pl xs ys h k]
    exact ⟨fun e => by rw [e], fun e => by injection e⟩
  | .list _, .tuple _, _, _ => by simp [PyData.eqv]
  | .tuple _, .none, _, _ => by simp [PyData.eqv]
  | .tuple _, .int _, _, _ => by simp [PyData.eqv]
  | .tuple _, .str _, _, _ => by simp [PyData.eqv]
  | .tuple _, .list _, _, _ => by simp [PyData.eqv]
  | .tuple xs, .tuple ys, h, k => by
    rw [PyData.eqv, eqvs_pl xs ys h k]
    exact ⟨fun e => by rw [e], fun e => by injection e⟩
  | .bool _, _, h, _ => by cases h
  | .dict _, _, h, _ => by cases h
  | _, .bool _, _, h => by cases h
  | _, .dict _, _, h => by cases h
theorem eqvs_pl : ∀ ps qs : List PyData, plPs ps = true → plPs qs = true → (PyData.eqvAll ps qs = true ↔ ps = qs)
  | [], [], _, _ => by simp [PyData.eqvAll]
  | [], _ :: _, _, _ => by simp [PyData.eqvAll]
  | _ :: _, [], _, _ => by simp [PyData.eqvAll]
  | x :: xs, y :: ys, h, k => by
    have h' := Bool.and_eq_true_iff.mp (show (plP x && plPs xs) = true from h)
    have k' := Bool.and_eq_true_iff.mp (show (plP y && plPs ys) = true from k)
    rw [PyData.eqvAll, Bool.and_eq_true, eqv_pl x y h'.1 k'.1, eqvs_pl xs ys h'.2 k'.2]
    exact ⟨fun e => by rw [e.1, e.2], fun e => by injection e with e1 e2; exact ⟨e1, e2⟩⟩
end
-- plain data, as deep as n
mutual
def nice : Nat → D → Bool
  | _, .non => true
  | _, .int _ => true
  | _, .str x => PyData.strOk x
  | n + 1, .tup ds => nices n ds
  | n + 1, .lst ds => nices n ds
  | _, _ => false
def nices : Nat → List D → Bool
  | _, [] => true
  | n, d :: ds => nice n d && nices n ds
end
theorem nices_iff {n : Nat} : ∀ {ds : List D}, nices n ds = true ↔ ∀ d ∈ ds, nice n d = true
  | [] => by simp [nices]
  | d :: ds => by rw [nices, Bool.and_eq_true, nices_iff (ds := ds)]; simp
mutual
theorem nice_py : ∀ (n : Nat) (d : D), nice n d = true → ∃ p, d.py = some p ∧ plP p = true ∧ p.canLay0 = true ∧ p.depth ≤ n
  | n, .non, _ => ⟨_, rfl, rfl, rfl, Nat.zero_le _⟩
  | n, .int i, _ => ⟨_, rfl, rfl, rfl, Nat.zero_le _⟩
  | n, .str x, h => ⟨_, rfl, rfl, by simpa [PyData.canLay0, nice] using h, Nat.zero_le _⟩
  | n + 1, .tup ds, h => by
    obtain ⟨ps, h1, h2, h3, h4⟩ := nices_py n ds (by simpa [nice] using h)
    refine ⟨.tuple ps, by simp [D.py, h1], by simpa [plP] using h2, by simpa [PyData.canLay0] using h3, ?_⟩
    simp only [PyData.depth]
    omega
  | n + 1, .lst ds, h => by
    obtain ⟨ps, h1, h2, h3, h4⟩ := nices_py n ds (by simpa [nice] using h)
    refine ⟨.list ps, by simp [D.py, h1], by simpa [plP] using h2, by simpa [PyData.canLay0] using h3, ?_⟩
    simp only [PyData.depth]
    omega
  | 0, .tup _, h => by simp [nice] at h
  | 0, .lst _, h => by simp [nice] at h
  | _, .any, h => by simp [nice] at h
  | _, .bl _, h => by simp [nice] at h
  | _, .ty _, h => by simp [nice] at h
  | _, .adr _, h => by simp [nice] at h
  | _, .exc _ _ _ _ _, h => by simp [nice] at h
  | _, .wtp _, h => by simp [nice] at h
  | _, .scr _, h => by simp [nice] at h
  | _, .dct _ _, h => by simp [nice] at h
  | _, .ins _ _ _, h => by simp [nice] at h
theorem nices_py : ∀ (n : Nat) (ds : List D), nices n ds = true → ∃ ps, D.pys ds = some ps ∧ plPs ps = true ∧ PyData.canLayAll0 ps = true ∧ PyData.depthAll ps ≤ n
  | n, [], _ => ⟨[], by simp [D.pys], rfl, by simp [PyData.canLayAll0], by simp [PyData.depthAll]⟩
  | n, d :: ds, h => by
    have h' := Bool.and_eq_true_iff.mp (show (nice n d && nices n ds) = true by simpa [nices] using h)
    obtain ⟨p, h1, h2, h3, h4⟩ := nice_py n d h'.1
    obtain ⟨ps, k1, k2, k3, k4⟩ := nices_py n ds h'.2
    refine ⟨p :: ps, by simp [D.pys, h1, k1], by simp [plPs, h2, k2], by simp [PyData.canLayAll0, h3, k3], ?_⟩
    simp only [PyData.depthAll]
    omega
end
mutual
theorem py_inj : ∀ (n m : Nat) (d e : D) (p : PyData), nice n d = true → nice m e = true → d.py = some p → e.py = some p → d = e
  | n, m, .non, e, p, h, k, h1, k1 => by
    have e0 : PyData.none = p := Option.some.inj (by simpa [D.py] using h1)
    subst e0
    cases e with
    | non => rfl
    | tup ds => simp [D.py] at k1
    | lst ds => simp [D.py] at k1
    | int i => simp [D.py] at k1
    | str i => simp [D.py] at k1
    | _ => simp [nice] at k
  | n, m, .int i, e, p, h, k, h1, k1 => by
    have e0 : PyData.int i = p := Option.some.inj (by simpa [D.py] using h1)
    subst e0
    cases e with
    | non => simp [D.py] at k1
    | tup ds => simp [D.py] at k1
    | lst ds => simp [D.py] at k1
    | int i => simp [D.py] at k1; rw [k1]
    | str i => simp [D.py] at k1
    | _ => simp [nice] at k
  | n, m, .str i, e, p, h, k, h1, k1 => by
    have e0 : PyData.str i = p := Option.some.inj (by simpa [D.py] using h1)
    subst e0
    cases e with
    | non => simp [D.py] at k1
    | tup ds => simp [D.py] at k1
    | lst ds => simp [D.py] at k1
    | int i => simp [D.py] at k1
    | str i => simp [D.py] at k1; rw [k1]
    | _ => simp [nice] at k
  | n + 1, m, .tup ds, e, p, h, k, h1, k1 => by
    obtain ⟨ps, hp, rfl⟩ := Option.map_eq_some_iff.mp (show (D.pys ds).map PyData.tuple = some p by simpa [D.py] using h1)
    cases e with
    | tup es =>
      obtain ⟨qs, hq, e2⟩ := Option.map_eq_some_iff.mp (show (D.pys es).map PyData.tuple = some (.tuple ps) by simpa [D.py] using k1)
      injection e2 with e2
      subst e2
      cases m with
      | zero => simp [nice] at k
      | succ m => rw [pys_inj n m ds es qs (by simpa [nice] using h) (by simpa [nice] using k) hp hq]
    | non => simp [D.py] at k1
    | lst es => simp [D.py] at k1
    | int i => simp [D.py] at k1
    | str i => simp [D.py] at k1
    | _ => simp [nice] at k
  | n + 1, m, .lst ds, e, p, h, k, h1, k1 => by
    obtain ⟨ps, hp, rfl⟩ := Option.map_eq_some_iff.mp (show (D.pys ds).map PyData.list = some p by simpa [D.py] using h1)
    cases e with
    | lst es =>
      obtain ⟨qs, hq, e2⟩ := Option.map_eq_some_iff.mp (show (D.pys es).map PyData.list = some (.list ps) by simpa [D.py] using k1)
      injection e2 with e2
      subst e2
      cases m with
      | zero => simp [nice] at k
      | succ m => rw [pys_inj n m ds es qs (by simpa [nice] using h) (by simpa [nice] using k) hp hq]
    | non => simp [D.py] at k1
    | tup es => simp [D.py] at k1
    | int i => simp [D.py] at k1
    | str i => simp [D.py] at k1
    | _ => simp [nice] at k
  | 0, _, .tup _, _, _, h, _, _, _ => by simp [nice] at h
  | 0, _, .lst _, _, _, h, _, _, _ => by simp [nice] at h
  | _, _, .any, _, _, h, _, _, _ => by simp [nice] at h
  | _, _, .bl _, _, _, h, _, _, _ => by simp [nice] at h
  | _, _, .ty _, _, _, h, _, _, _ => by simp [nice] at h
  | _, _, .adr _, _, _, h, _, _, _ => by simp [nice] at h
  | _, _, .exc _ _ _ _ _, _, _, h, _, _, _ => by simp [nice] at h
  | _, _, .wtp _, _, _, h, _, _, _ => by simp [nice] at h
  | _, _, .scr _, _, _, h, _, _, _ => by simp [nice] at h
  | _, _, .dct _ _, _, _, h, _, _, _ => by simp [nice] at h
  | _, _, .ins _ _ _, _, _, h, _, _, _ => by simp [nice] at h
theorem pys_inj : ∀ (n m : Nat) (ds es : List D) (ps : List PyData), nices n ds = true → nices m es = true → D.pys ds = some ps → D.pys es = some ps → ds = es
  | n, m, [], [], ps, _, _, _, _ => rfl
  | n, m, [], e :: es, ps, h, k, h1, k1 => by
    have e0 : [] = ps := Option.some.inj (by simpa [D.pys] using h1)
    subst e0
    unfold D.pys at k1
    cases h2 : e.py with
    | none => rw [h2] at k1; cases k1
    | some p =>
      cases h3 : D.pys es with
      | none => rw [h2, h3] at k1; cases k1
      | some q => rw [h2, h3] at k1; cases k1
  | n, m, d :: ds, [], ps, h, k, h1, k1 => by
    have e0 : [] = ps := Option.some.inj (by simpa [D.pys] using k1)
    subst e0
    unfold D.pys at h1
    cases h2 : d.py with
    | none => rw [h2] at h1; cases h1
    | some p =>
      cases h3 : D.pys ds with
      | none => rw [h2, h3] at h1; cases h1
      | some q => rw [h2, h3] at h1; cases h1
  | n, m, d :: ds, e :: es, ps, h, k, h1, k1 => by
    have h' := Bool.and_eq_true_iff.mp (show (nice n d && nices n ds) = true by simpa [nices] using h)
    have k' := Bool.and_eq_true_iff.mp (show (nice m e && nices m es) = true by simpa [nices] using k)
    unfold D.pys at h1 k1
    cases a1 : d.py with
    | none => rw [a1] at h1; cases h1
    | some p =>
      cases a2 : D.pys ds with
      | none => rw [a1, a2] at h1; cases h1
      | some q =>
        cases b1 : e.py with
        | none => rw [b1] at k1; cases k1
        | some p' =>
          cases b2 : D.pys es with
          | none => rw [b1, b2] at k1; cases k1
          | some q' =>
            rw [a1, a2] at h1
            rw [b1, b2] at k1
            have e1 : p :: q = ps := Option.some.inj h1
            have e2 : p' :: q' = ps := Option.some.inj k1
            subst e1
            injection e2 with e2 e3
            subst e2
            subst e3
            rw [py_inj n m d e p' h'.1 k'.1 a1 b1, pys_inj n m ds es q' h'.2 k'.2 a2 b2]
end
theorem shaped_nice {n : Nat} {p : PyData} (h : p.canLay0 = true) (hd : p.depth ≤ n) (hn : n ≤ 64) : SeqAt.shaped p = true := by
  unfold SeqAt.shaped
  rw [h, decide_eq_true (Nat.le_trans hd hn)]
  rfl
/-- two plain things compared -/
theorem eqD_nice {n m : Nat} {x y : D} (hx : nice n x = true) (hy : nice m y = true) (hn : n ≤ 64 := by decide) (hm : m ≤ 64 := by decide) : ∃ b, eqD x y = some b ∧ (b = true ↔ x = y) := by
  obtain ⟨p, h1, h2, h3, h4⟩ := nice_py n x hx
  obtain ⟨q, k1, k2, k3, k4⟩ := nice_py m y hy
  refine ⟨PyData.eqv p q, ?_, ?_⟩
  · unfold eqD
    rw [h1, k1]
    dsimp only
    rw [shaped_nice h3 h4 hn, shaped_nice k3 k4 hm]
    rfl
  · rw [eqv_pl p q h2 k2]
    exact ⟨fun e => by subst e; exact py_inj n m x y p hx hy h1 k1, fun e => by subst e; rw [h1] at k1; exact Option.some.inj k1⟩
theorem eqD_self {n : Nat} {x : D} (hx : nice n x = true) (hn : n ≤ 64 := by decide) : eqD x x = some true := by
  obtain ⟨b, h1, h2⟩ := eqD_nice hx hx hn hn
  rw [h1, h2.mpr rfl]
theorem neD_nice {n m : Nat} {x y : D} (hx : nice n x = true) (hy : nice m y = true) (hn : n ≤ 64 := by decide) (hm : m ≤ 64 := by decide) : ∃ b, neD x y = some b ∧ (b = true ↔ x ≠ y) := by
  obtain ⟨b, h1, h2⟩ := eqD_nice hx hy hn hm
  refine ⟨!b, by show (eqD x y).map (!·) = _; rw [h1]; rfl, ?_⟩
  rw [Bool.not_eq_true', ← Bool.not_eq_true, h2]
theorem pys_mem : ∀ {ds : List D} {ps : List PyData}, D.pys ds = some ps → (∀ d ∈ ds, ∃ p ∈ ps, d.py = some p) ∧ ∀ p ∈ ps, ∃ d ∈ ds, d.py = some p
  | [], ps, h => by
    have e0 : [] = ps := Option.some.inj (by simpa [D.pys] using h)
    subst e0
    exact ⟨fun d m => (nomatch m), fun p m => (nomatch m)⟩
  | d :: ds, ps, h => by
    unfold D.pys at h
    cases a1 : d.py with
    | none => rw [a1] at h; cases h
    | some p =>
      cases a2 : D.pys ds with
      | none => rw [a1, a2] at h; cases h
      | some q =>
        rw [a1, a2] at h
        cases h
        obtain ⟨h1, h2⟩ := pys_mem a2
        refine ⟨fun e m => ?_, fun r m => ?_⟩
        · rcases List.mem_cons.mp m with rfl | m
          · exact ⟨p, List.mem_cons_self, a1⟩
          · obtain ⟨r, m1, m2⟩ := h1 e m
            exact ⟨r, List.mem_cons_of_mem _ m1, m2⟩
        · rcases List.mem_cons.mp m with rfl | m
          · exact ⟨d, List.mem_cons_self, a1⟩
          · obtain ⟨e, m1, m2⟩ := h2 r m
            exact ⟨e, List.mem_cons_of_mem _ m1, m2⟩
theorem inD_nice {n : Nat} {x : D} {ds : List D} (hx : nice n x = true) (hy : nices n ds = true) (hn : n < 64 := by decide) : ∃ b, inD x (.lst ds) = some b ∧ (b = true ↔ x ∈ ds) := by
  obtain ⟨p, h1, h2, h3, h4⟩ := nice_py n x hx
  obtain ⟨ps, k1, k2, k3, k4⟩ := nices_py n ds hy
  refine ⟨ps.any fun z => PyData.eqv z p, ?_, ?_⟩
  · show (match x.py, D.pys ds with
      | some p, some ps => if SeqAt.shaped p && SeqAt.shaped (.list ps) then some (ps.any fun z => PyData.eqv z p) else none
      | _, _ => none) = _
    rw [h1, k1]
    dsimp only
    rw [shaped_nice h3 h4 (by omega), shaped_nice (n := n + 1) (p := .list ps) (by simpa [PyData.canLay0] using k3) (by simp only [PyData.depth]; omega) (by omega)]
    rfl
  · rw [List.any_eq_true]
    obtain ⟨m1, m2⟩ := pys_mem k1
    have pls : ∀ q ∈ ps, plP q = true := by
      have : ∀ {ps : List PyData}, plPs ps = true → ∀ q ∈ ps, plP q = true := by
        intro ps
        induction ps with
        | nil => intro _ q m; cases m
        | cons a as ih =>
          intro h q m
          have h' := Bool.and_eq_true_iff.mp (show (plP a && plPs as) = true from h)
          rcases List.mem_cons.mp m with rfl | m
          · exact h'.1
          · exact ih h'.2 q m
      exact this k2
    constructor
    · rintro ⟨q, mq, e⟩
      rw [eqv_pl q p (pls q mq) h2] at e
      subst e
      obtain ⟨d, md, hd⟩ := m2 q mq
      rw [py_inj n n x d q hx (nices_iff.mp hy d md) h1 hd]
      exact md
    · intro mx
      obtain ⟨q, mq, e⟩ := m1 x mx
      rw [h1] at e
      cases e
      exact ⟨p, mq, (eqv_pl p p h2 h2).mpr rfl⟩
theorem notinD_nice {n : Nat} {x : D} {ds : List D} (hx : nice n x = true) (hy : nices n ds = true) (hn : n < 64 := by decide) : ∃ b, notinD x (.lst ds) = some b ∧ (b = true ↔ x ∉ ds) := by
  obtain ⟨b, h1, h2⟩ := inD_nice hx hy hn
  refine ⟨!b, by show (inD x (.lst ds)).map (!·) = _; rw [h1]; rfl, ?_⟩
  rw [Bool.not_eq_true', ← Bool.not_eq_true, h2]
end DL

/-! DMJ: rules that step through dicts, objects, places. -/
namespace DL
open PySem PySem.Spec PyProof.Rows L2 Evl
section
variable {α β : Type} {q : Bool} {e : Env} {P : α → Env → Prop} {PR : Rv → Env → Prop} {PD : D → Env → Prop} {PO : O → Env → Prop} {PB : Bool → Env → Prop}
theorem w_dixX {d : Den O} {di : Den D} (p : EW q d e fun o e1 => EW true di e1 fun i e2 => OP (elemOX o i) fun x => PO x e2) : EW q (dixX d di) e PO := by
  unfold dixX
  simp only [ew_bind, ew_lift, ew_dq]
  exact p
theorem w_getX {d : Den O} {das : Den (List D)} (p : EW q d e fun o e1 => isDO o = true ∧ EW true das e1 fun as e2 => OP (match as with
  | [k] => getOX o k (.im .non)
  | [k, x] => getOX o k (.im x)
  | _ => none) fun x => PO x e2) : EW q (dgetX d das) e PO := by
  unfold dgetX
  rw [ew_bind]
  refine ew_imp p fun o e1 h => ?_
  rw [if_pos h.1]
  simp only [ew_bind, ew_lift, ew_dq]
  exact h.2
theorem w_listX {d : Den O} (p : EW q d e fun o e1 => OP (keysOX o) fun ds => PR (.new (.lst (ds.map O.im))) e1) : EW q (dlistX d) e PR := by
  unfold dlistX
  rw [ew_bind]
  refine ew_imp p fun o e1 h => ew_lift.mpr ?_
  obtain ⟨z, hz, p⟩ := h
  exact ⟨_, by rw [hz]; rfl, p⟩
theorem w_sorted {d : Den O} (p : EW q d e fun o e1 => OP (lsqV o) fun ds => OP (sortD ds) fun es => PR (.new (.lst (es.map O.im))) e1) : EW q (dsorted d) e PR := by
  unfold dsorted
  rw [ew_bind]
  refine ew_imp p fun o e1 h => ew_lift.mpr ?_
  obtain ⟨z, hz, y, hy, p⟩ := h
  exact ⟨_, by rw [hz]; show ((sortD z).map _) = _; rw [hy]; rfl, p⟩
theorem w_un {g : D → Option D} {d : Den D} (p : EW q d e fun x e1 => OP (g x) fun z => PD z e1) : EW q (dun g d) e PD := by
  unfold dun
  simp only [ew_bind, ew_lift]
  exact p
theorem w_sqC {C : Addr} {fld : Str} {d : Den D} {PL : List D → Env → Prop} (p : EW q d e fun x e1 => OP (match insSeq C fld x with
  | some ds => some ds
  | none => seqD x) fun ds => PL ds e1) : EW q (sqC C fld d) e PL := by
  unfold sqC
  simp only [ew_bind, ew_lift]
  exact p
/-- a new instance -/
theorem w_make {C : Addr} {n : Nat} {f : FDen} {as : List AR} {os : List O} {ks : List (Option (Nat × Bool))} {e1 : Env} {o : O} {os' : List O} (hf : FO f (.ins C [] [] :: os) fun o' r => o' = o :: os' ∧ r = .im .non) (hn : as.length + 1 = n) (hl : lend as e = some (os, ks, e1)) (hq : q = false ∨ allIm os = true)
    (k : OP (unlend ks os' e1) fun e2 => PR (.new o) e2) : EW q (dmakeA C n f as) e PR := by
  obtain ⟨m, o', r, h1, rfl, rfl⟩ := hf
  obtain ⟨e2, h3, h4⟩ := k
  unfold EW dmakeA
  rw [if_pos hn, hl]
  dsimp only
  rw [h1]
  dsimp only
  rw [h3]
  refine ⟨_, e2, _, rfl, fun z => ?_, h4⟩
  rcases hq with h | h
  · rw [h] at z; cases z
  · rw [h]; cases m <;> rfl
/-- what is handed over is frozen -/
theorem w_makeI {C : Addr} {n : Nat} {f : FDen} {ds : List D} {o : O} (hf : FO f (.ins C [] [] :: ds.map O.im) fun o' r => o' = o :: ds.map O.im ∧ r = .im .non) (hn : ds.length + 1 = n) (k : PR (.new o) e) : EW q (dmakeA C n f (ds.map AR.im)) e PR :=
  w_make hf (by rw [List.length_map]; exact hn) (lend_im ds e) (.inr (allIm_map ds)) ⟨e, unlend_im ds e, k⟩
theorem w_fldO {Cs : List Addr} {f : Str} {d : Den O} (p : EW q d e fun o e1 => OP (fldO Cs f o) fun x => PO x e1) : EW q (dbind d fun o => dlift (fldO Cs f o)) e PO := by
  simp only [ew_bind, ew_lift]
  exact p
theorem op_fldI {C : Addr} {f : Str} {ns : List Str} {ds : List D} {d : D} {P : O → Prop} (h : (ns.zip ds).lookup f = some d) (p : P (.im d)) : OP (fldO [C] f (.im (.ins C ns ds))) P := ⟨_, by
  show (if C ∈ [C] then ((ns.zip ds).lookup f).map O.im else none) = _
  rw [if_pos (List.mem_singleton.mpr rfl), h]
  rfl, p⟩
/-- a method of a frozen instance, the arguments frozen -/
theorem w_methI {C : Addr} {m : Str} {n : Nat} {f : FDen} {ns : List Str} {xs : List D} {da : Den Rv} {das : Den (List AR)} {dd : List D} (p : EW q da e fun r e1 => r = .im (.ins C ns xs) ∧ ((ns.zip xs).lookup m).isNone = true ∧ EW q das e1 fun as e2 => EW q (dfnA n f (.im (.ins C ns xs) :: (as ++ dd.map AR.im))) e2 PR) : EW q (dmeth C m n f da das dd) e PR := by
  unfold dmeth ar1
  simp only [ew_bind, ew_pure]
  refine ew_imp p fun r e1 h => ?_
  obtain ⟨rfl, h1, h2⟩ := h
  have hc : isC C m (darg (.im (.ins C ns xs))) e1 = true := by
    show (decide (C = C) && ((ns.zip xs).lookup m).isNone) = true
    rw [h1, decide_eq_true rfl]
    rfl
  show EW q (fun e => if isC C m (darg (.im (.ins C ns xs))) e = true then _ else none) e1 PR
  unfold EW
  dsimp only
  rw [if_pos hc]
  exact ew_bind.mpr h2
end
section
variable {q : Bool} {e : Env} {N : Env → Prop} {R : Rv → Env → Prop} {B C : Env → Prop}
theorem plO_slot {i : Nat} {e : Env} {b : Bool} {t : O} (h : lk e i = some (b, t)) (hk : t.kids.isSome = true) : plO (i, []) e = some t := by
  unfold plO
  rw [lk_some h]
  show (if t.kids.isSome = true then some t else none) = _
  rw [if_pos hk]
theorem plPut_slot {i : Nat} {e : Env} {b : Bool} {t o : O} (h : lk e i = some (b, t)) : plPut (i, []) e o = e.set i (some (b, o)) := by
  unfold plPut
  rw [lk_some h]
  rfl
theorem w_dplVar {P : Pl → Env → Prop} {i : Nat} {b : Bool} {t : O} (h : lk e i = some (b, t)) (hk : t.kids.isSome = true) (p : P (i, []) e) : EW q (dplVar i) e P := by
  unfold EW dplVar
  rw [plO_slot h hk]
  exact ⟨_, _, _, rfl, fun _ => rfl, p⟩
/-- x[k] = e, x a dict in a slot -/
def stXP (i : Nat) (o : O) (k : D) (N : Env → Prop) (e : Env) : Prop := match lk e i with
  | some (b, .dct ks vs) => (okKey ks k = true ∧ ks.length < sizeLine) ∧ N (e.set i (some (b, .dct (putKs ks k) (putVs ks k vs o))))
  | _ => False
theorem w_stX {i : Nat} {dv : Den Rv} {dk : Den D} (p : EW false dv e fun r e1 => rvP r e1 fun o e2 => (∃ b ks vs, lk e2 i = some (b, .dct ks vs)) ∧ EW true dk e2 fun k e3 => stXP i o k N e3) : SW (sstP dv (dplVar i) dk) e ⟨N, R, B, C⟩ := by
  unfold sstP
  rw [sw_bind]
  refine ew_imp p fun r e1 h => ?_
  rw [sw_bind]
  refine ew_imp (w_rvO h) fun o e2 h => ?_
  rw [sw_bind]
  obtain ⟨⟨b, ks, vs, hl⟩, h⟩ := h
  refine w_dplVar hl rfl ?_
  rw [sw_bind, ew_dq]
  obtain ⟨m, e3, k, h1, h2, h3⟩ := h
  refine ⟨m, e3, k, h1, (fun _ => h2 rfl), ?_⟩
  unfold stXP at h3
  cases h4 : lk e3 i with
  | none => rw [h4] at h3; exact False.elim h3
  | some y =>
    obtain ⟨b, y⟩ := y
    rw [h4] at h3
    cases y with
    | dct ks vs =>
      unfold SW stP
      rw [plO_slot h4 rfl]
      dsimp only
      rw [if_pos h3.1, plPut_slot h4]
      exact ⟨_, rfl, h3.2⟩
    | _ => exact False.elim h3
/-- x.f = e, x an instance in a slot -/
theorem w_fldS {i : Nat} {D : Addr} {f : Str} {dv : Den Rv} {b : Bool} {ns : List Str} {vs : List O} (p : EW false dv e fun r e1 => rvP r e1 fun o e2 => lk e2 i = some (b, .ins D ns vs) ∧ vs.length < 1000 ∧ N (e2.set i (some (b, .ins D (putN ns f) (putW ns f vs o))))) : SW (sfldP dv (dplVar i) [D] f) e ⟨N, R, B, C⟩ := by
  unfold sfldP
  rw [sw_bind]
  refine ew_imp p fun r e1 h => ?_
  rw [sw_bind]
  refine ew_imp (w_rvO h) fun o e2 h => ?_
  rw [sw_bind]
  obtain ⟨hl, hz, h⟩ := h
  refine w_dplVar hl rfl ?_
  unfold SW fldP
  rw [plO_slot hl rfl]
  dsimp only
  rw [if_pos ⟨List.mem_singleton.mpr rfl, hz⟩, plPut_slot hl]
  exact ⟨_, rfl, h⟩
/-- for over a list, a tuple, an instance -/
def forCP (C : Addr) (fld : Str) (r : Rv) (bind : D → Env → Option Env) (body : SDen) (e : Env) (A : Aft) : Prop := match r with
  | .im d => OP (match insSeq C fld d with
    | some ds => some ds
    | none => seqD d) fun ds => SW (sloop bind body ds) e A
  | .new o => OP (seqD o.flat) fun ds => SW (sloop bind body ds) e A
  | .bor i _ => match lk e i with
    | some (_, o) => OP (seqO o) fun ds => SW (slend i (sloop bind body ds)) e A
    | none => False
theorem w_forC {D : Addr} {fld : Str} {it : Den Rv} {bind : DL.D → Env → Option Env} {body : SDen} (p : EW false it e fun r e' => forCP D fld r bind body e' ⟨N, R, B, C⟩) : SW (sforC D fld it bind body) e ⟨N, R, B, C⟩ := by
  unfold sforC
  rw [sw_bind]
  refine ew_imp p fun r e' h => ?_
  unfold forCP at h
  unfold SW
  cases r with
  | im d =>
    obtain ⟨z, hz, p⟩ := h
    dsimp only
    cases h2 : insSeq D fld d with
    | none => rw [h2] at hz; dsimp only at hz ⊢; rw [hz]; exact p
    | some ds => rw [h2] at hz; cases hz; exact p
  | new d => obtain ⟨z, hz, p⟩ := h; dsimp only; rw [hz]; exact p
  | bor i x =>
    dsimp only at h ⊢
    cases h2 : lk e' i with
    | none => rw [h2] at h; exact False.elim h
    | some y =>
      obtain ⟨b, y⟩ := y
      rw [h2] at h
      obtain ⟨z, hz, p⟩ := h
      rw [lk_some h2]
      dsimp only
      rw [hz]
      exact p
end
/-- an operator of an own class, its answer frozen -/
theorem o_own2 {C : Addr} {f : FDen} {ns ms : List Str} {xs ys : List D} {d : D} {P : D → Prop} (hf : FI f [.ins C ns xs, .ins C ms ys] fun r => r = .im d ∨ ∃ o, r = .new o ∧ o.flat = d) (p : P d) : OP (own2 C f (.ins C ns xs) (.ins C ms ys)) P := by
  obtain ⟨m, os, r, h1, _, h2⟩ := hf
  refine ⟨d, ?_, p⟩
  show (if C = C ∧ C = C then ownR (f [.im (.ins C ns xs), .im (.ins C ms ys)]) else none) = _
  rw [if_pos ⟨rfl, rfl⟩, show f [.im (.ins C ns xs), .im (.ins C ms ys)] = _ from h1]
  rcases h2 with rfl | ⟨o, rfl, rfl⟩ <;> rfl
theorem o_own1 {C : Addr} {f : FDen} {ns : List Str} {xs : List D} {d : D} {P : D → Prop} (hf : FI f [.ins C ns xs] fun r => r = .im d ∨ ∃ o, r = .new o ∧ o.flat = d) (p : P d) : OP (own1 C f (.ins C ns xs)) P := by
  obtain ⟨m, os, r, h1, _, h2⟩ := hf
  refine ⟨d, ?_, p⟩
  show (if C = C then ownR (f [.im (.ins C ns xs)]) else none) = _
  rw [if_pos rfl, show f [.im (.ins C ns xs)] = _ from h1]
  rcases h2 with rfl | ⟨o, rfl, rfl⟩ <;> rfl
theorem o_own2T {C : Addr} {f : FDen} {ns : List Str} {xs ys : List D} {d : D} {P : D → Prop} (hf : FI f [.ins C ns xs, .tup ys] fun r => r = .im d ∨ ∃ o, r = .new o ∧ o.flat = d) (p : P d) : OP (own2T C f (.ins C ns xs) (.tup ys)) P := by
  obtain ⟨m, os, r, h1, _, h2⟩ := hf
  refine ⟨d, ?_, p⟩
  show (if C = C then ownR (f [.im (.ins C ns xs), .im (.tup ys)]) else none) = _
  rw [if_pos rfl, show f [.im (.ins C ns xs), .im (.tup ys)] = _ from h1]
  rcases h2 with rfl | ⟨o, rfl, rfl⟩ <;> rfl
theorem o_ownIn {C : Addr} {f : FDen} {ns : List Str} {xs : List D} {x : D} {b : Bool} {P : D → Prop} (hf : FI f [.ins C ns xs, x] (· = .im (.bl b))) (p : P (.bl b)) : OP (own2R C f x (.ins C ns xs)) P := by
  obtain ⟨m, os, r, h1, _, rfl⟩ := hf
  refine ⟨.bl b, ?_, p⟩
  have h2 : own2R C f x (.ins C ns xs) = (if C = C then (match ownR (f [.im (.ins C ns xs), .im x]) with
    | some (.bl b) => some (.bl b)
    | _ => none) else none) := by unfold own2R; cases x <;> rfl
  rw [h2, if_pos rfl, show f [.im (.ins C ns xs), .im x] = _ from h1]
  rfl
section
variable {q : Bool} {e : Env}
/-- a comprehension whose items are pictures E b of b's that R tells -/
theorem w_compE {γ δ : Type} {src : Den (List D)} {bind : D → Env → Option Env} {elt : Den Rv} {vs : List Nat} {P : Rv → Env → Prop} (l : List γ) (g : γ → D) (E : δ → O) (Rl : γ → δ → Prop)
    (p : EW q src e fun ds e' => ds = l.map g ∧ (wiped e' vs = true ∧ restE e' (wipeE e' vs) vs = e') ∧ l.length ≤ sizeLine ∧ (∀ a ∈ l, OP (bind (g a) (wipeE e' vs)) fun e1 => EW q elt e1 fun rv e3 => rvP rv e3 fun o e4 => (∃ b, o = E b ∧ Rl a b) ∧ wipeE e4 vs = wipeE e' vs) ∧
      ∀ bs : List δ, bs.length = l.length → (∀ (i : Nat) a b, l[i]? = some a → bs[i]? = some b → Rl a b) → P (.new (.lst (bs.map E))) e') : EW q (dcomp src bind (dpure true) elt vs) e P := by
  obtain ⟨m, e', ds, k1, k2, rfl, k3, k4, k5, k6⟩ := p
  unfold dcomp
  rw [ew_bind]
  refine ⟨m, e', l.map g, k1, k2, ?_⟩
  have key : ∀ {l : List γ} {acc : List O}, acc.length + l.length ≤ sizeLine → (∀ a ∈ l, OP (bind (g a) (wipeE e' vs)) fun e1 => EW q elt e1 fun rv e3 => rvP rv e3 fun o e4 => (∃ b, o = E b ∧ Rl a b) ∧ wipeE e4 vs = wipeE e' vs) →
      ∃ (bs : List δ) (m : Bool), bs.length = l.length ∧ (∀ (i : Nat) a b, l[i]? = some a → bs[i]? = some b → Rl a b) ∧ cloop bind (dpure true) elt vs (l.map g) acc (wipeE e' vs) = some (.ok m (wipeE e' vs) (acc ++ bs.map E)) ∧ (q = true → m = false) := by
    intro l
    induction l with
    | nil => intro acc _ _; exact ⟨[], false, rfl, fun i a b h => (by simp at h), by rw [List.map_nil, List.map_nil, List.append_nil]; rfl, fun _ => rfl⟩
    | cons a l ih =>
      intro acc hl hh
      rw [List.length_cons] at hl
      obtain ⟨e1, h1, m2, e3, rv, h4, hm2, h5⟩ := hh a List.mem_cons_self
      obtain ⟨m3, e4, o, h6, _, ⟨b, hf, hR⟩, he⟩ := w_rvO (q := false) h5
      obtain ⟨bs, m, hbl, hbR, hc, hm⟩ := ih (acc := acc ++ [o]) (by rw [List.length_append]; show acc.length + 1 + l.length ≤ sizeLine; omega) fun x hx => hh x (List.mem_cons_of_mem _ hx)
      refine ⟨b :: bs, false || m2 || m, by rw [List.length_cons, List.length_cons, hbl], fun i x y hx hy => ?_, ?_, fun z => by rw [hm2 z, hm z]; rfl⟩
      · cases i with
        | zero =>
          have e1 : a = x := by simpa using hx
          have e2 : b = y := by simpa using hy
          rw [← e1, ← e2]
          exact hR
        | succ i => exact hbR i x y (by simpa using hx) (by simpa using hy)
      · rw [List.map_cons]
        unfold cloop
        rw [h1]
        dsimp only [dpure]
        rw [h4]
        dsimp only
        rw [h6]
        dsimp only
        rw [if_pos (by omega), he, hc, hf, List.append_assoc]
        rfl
  obtain ⟨bs, m, hbl, hbR, hc, hm⟩ := key (acc := []) (by simpa using k4) k5
  refine ⟨m, e', _, ?_, hm, k6 bs hbl hbR⟩
  dsimp only
  rw [if_pos k3.1, hc]
  dsimp only
  rw [k3.2]
  rfl
/-- a comprehension with a condition -/
theorem w_compF {γ : Type} {src : Den (List D)} {bind : D → Env → Option Env} {tt : Den Bool} {elt : Den Rv} {vs : List Nat} {P : Rv → Env → Prop} (l : List γ) (g : γ → D) (c : γ → Bool) (h : γ → O)
    (p : EW q src e fun ds e' => ds = l.map g ∧ (wiped e' vs = true ∧ restE e' (wipeE e' vs) vs = e') ∧ l.length ≤ sizeLine ∧ (∀ a ∈ l, OP (bind (g a) (wipeE e' vs)) fun e1 => EW q tt e1 fun b e2 => BR b (c a = true ∧ EW q elt e2 fun rv e3 => rvP rv e3 fun o e4 => o = h a ∧ wipeE e4 vs = wipeE e' vs) (c a = false ∧ wipeE e2 vs = wipeE e' vs)) ∧
      P (.new (.lst ((l.filter c).map h))) e') : EW q (dcomp src bind tt elt vs) e P := by
  obtain ⟨m, e', ds, k1, k2, rfl, k3, k4, k5, k6⟩ := p
  unfold dcomp
  rw [ew_bind]
  refine ⟨m, e', l.map g, k1, k2, ?_⟩
  have key : ∀ {l : List γ} {acc : List O}, acc.length + l.length ≤ sizeLine → (∀ a ∈ l, OP (bind (g a) (wipeE e' vs)) fun e1 => EW q tt e1 fun b e2 => BR b (c a = true ∧ EW q elt e2 fun rv e3 => rvP rv e3 fun o e4 => o = h a ∧ wipeE e4 vs = wipeE e' vs) (c a = false ∧ wipeE e2 vs = wipeE e' vs)) →
      ∃ m : Bool, cloop bind tt elt vs (l.map g) acc (wipeE e' vs) = some (.ok m (wipeE e' vs) (acc ++ (l.filter c).map h)) ∧ (q = true → m = false) := by
    intro l
    induction l with
    | nil => intro acc _ _; exact ⟨false, by rw [List.filter_nil, List.map_nil, List.map_nil, List.append_nil]; rfl, fun _ => rfl⟩
    | cons a l ih =>
      intro acc hl hh
      rw [List.length_cons] at hl
      obtain ⟨e1, h1, m1, e2, b, h2, hm1, h3⟩ := hh a List.mem_cons_self
      rw [List.map_cons]
      unfold cloop
      rw [h1]
      dsimp only
      rw [h2]
      cases b with
      | false =>
        obtain ⟨hf, he⟩ := h3.2 rfl
        obtain ⟨m, hc, hm⟩ := ih (acc := acc) (by omega) fun x hx => hh x (List.mem_cons_of_mem _ hx)
        dsimp only
        rw [he, hc, List.filter_cons_of_neg (by rw [hf]; exact Bool.false_ne_true)]
        exact ⟨m1 || m, rfl, fun z => by rw [hm1 z, hm z]; rfl⟩
      | true =>
        obtain ⟨hf, m2, e3, rv, h4, hm2, h5⟩ := h3.1 rfl
        obtain ⟨m3, e4, o, h6, _, ho, he⟩ := w_rvO (q := false) h5
        obtain ⟨m, hc, hm⟩ := ih (acc := acc ++ [o]) (by rw [List.length_append]; show acc.length + 1 + l.length ≤ sizeLine; omega) fun x hx => hh x (List.mem_cons_of_mem _ hx)
        dsimp only
        rw [h4]
        dsimp only
        rw [h6]
        dsimp only
        rw [if_pos (by omega), he, hc, List.filter_cons_of_pos hf, ho, List.append_assoc]
        exact ⟨m1 || m2 || m, rfl, fun z => by rw [hm1 z, hm2 z, hm z]; rfl⟩
  obtain ⟨m, hc, hm⟩ := key (acc := []) (by simpa using k4) k5
  refine ⟨m, e', _, ?_, hm, k6⟩
  dsimp only
  rw [if_pos k3.1, hc]
  dsimp only
  rw [k3.2]
  rfl
theorem lstV_map {γ : Type} (g : γ → D) (l : List γ) : lstV (.lst (l.map fun a => O.im (g a))) = some (l.map g) := by
  show ims (l.map fun a => O.im (g a)) = _
  induction l with
  | nil => rfl
  | cons a l ih => show (ims (l.map fun a => O.im (g a))).map _ = _; rw [ih]; rfl
theorem lsqV_map {γ : Type} (g : γ → D) (l : List γ) : lsqV (.lst (l.map fun a => O.im (g a))) = some (l.map g) := lstV_map g l
theorem items_map {γ : Type} (g : γ → D) (l : List γ) : itemsO (.lst (l.map fun a => O.im (g a))) = some (l.map g) := lstV_map g l
theorem seqO_map {γ : Type} (g : γ → D) (l : List γ) : seqO (.lst (l.map fun a => O.im (g a))) = some (l.map g) := lstV_map g l
theorem map_im {γ : Type} (g : γ → D) (l : List γ) : (l.map g).map O.im = l.map fun a => O.im (g a) := by rw [List.map_map]; rfl
/-- .. over a range -/
theorem rangeD_map (n : Nat) : rangeD 0 n = (List.range n).map fun (i : Nat) => D.int (i : Int) := by
  unfold rangeD
  congr 1
  funext i
  rw [Int.zero_add]
theorem range_at {n i k : Nat} (h : (List.range n)[i]? = some k) : k = i ∧ i < n := by
  obtain ⟨h1, h2⟩ := List.getElem?_eq_some_iff.mp h
  rw [List.getElem_range] at h2
  rw [List.length_range] at h1
  exact ⟨h2.symm, h1⟩
end
end DL

/-! DMN: int(a text). -/
namespace DL
open PySem PySem.Spec PyProof.Rows L2 Evl
def intS : List D → Option D
  | [.str a] => if a.length ≤ 640 then (PySem.intText? a).map D.int else none
  | _ => none
theorem ok_intS {K : KB} : CallOkV K (fun xs H Q => ∃ a n, xs = [.str a] ∧ PySem.intText? a = some n ∧ a.length ≤ 640 ∧ Q (.int n) H) intS := by
  intro H xs ds d h hg
  unfold intS at hg
  split at hg
  · split at hg
    · rename_i a hz
      obtain ⟨n, hn, rfl⟩ := Option.map_eq_some_iff.mp hg
      obtain ⟨v, rfl, h1⟩ := reps1 h
      rw [show v = V.str _ from h1]
      exact ⟨.int n, fun _ => rfl, fun Q q => ⟨_, n, rfl, hn, hz, q⟩⟩
    · cases hg
  · cases hg
/-! ### one sign times a number -/
theorem rep_sign (c : Nat) : ∀ (n : Nat) (acc : List Nat), (List.replicate n (#[c] : Array Nat)).foldl (· ++ ·) acc.toArray = (acc ++ List.replicate n c).toArray
  | 0, acc => by simp
  | n + 1, acc => by
    rw [List.replicate_succ, List.foldl_cons, show acc.toArray ++ #[c] = (acc ++ [c]).toArray by simp, rep_sign c n, List.append_assoc, List.replicate_succ]
    rfl
def rMulS : R2 := fun x y H Q => ∃ (c : Nat) (n : Int), x = .str ⟨#[c]⟩ ∧ y = .int n ∧ 0 ≤ n ∧ n ≤ 1000000 ∧ Q (.str ⟨(List.replicate n.toNat c).toArray⟩) H
theorem op_mulS {X : Cx} : OpR X (binaryOp .Mult) rMulS := by
  intro pins s σ H x y v u Q I rx ry h
  obtain ⟨c, n, rfl, rfl, h0, h1, q⟩ := h
  obtain ⟨t, rfl⟩ := rx
  obtain ⟨t', rfl⟩ := ry
  have e1 : (⟨#[c]⟩ : Str).length = 1 := rfl
  refine PySem.P.mul_str ?_ (fun h2 _ => ?_) (fun h2 _ => ?_) ?_
  · rw [decide_eq_false (by omega), decide_eq_false (by omega)]
    rfl
  · rw [e1]
    have : (1 : Int) ≤ (2 ^ 63 - 1) / n := Int.le_ediv_of_mul_le (by omega) (by omega)
    omega
  · rw [e1, Nat.one_mul]
    have : n.toNat ≤ 1000000 := by omega
    have hs : sizeLine = 16777216 := sizeLine_eq
    show decide (n.toNat > sizeLine) = false
    exact decide_eq_false (by omega)
  · have fin : ∀ (tk : Nat) (u : Tok) (z : Str), z = ⟨(List.replicate n.toNat c).toArray⟩ → EP X pins σ Q (.str z u) { s with toks := tk } := fun tk u z e => ⟨.str z, H, I.tok _, ⟨u, rfl⟩, by rw [e]; exact q⟩
    by_cases hn : n < 1
    · rw [if_pos hn]
      have : n.toNat = 0 := by omega
      exact ⟨by decide, fin _ _ _ (by rw [this]; rfl)⟩
    · rw [if_neg hn]
      by_cases h2 : (n == 1 || (⟨#[c]⟩ : Str).length == 0) = true
      · rw [if_pos h2]
        have : n.toNat = 1 := by
          rw [e1] at h2
          simp at h2
          omega
        exact fin _ _ _ (by rw [this]; rfl)
      · rw [if_neg h2]
        have hz : (⟨(List.replicate n.toNat (#[c] : Array Nat)).foldl (· ++ ·) #[]⟩ : Str) = ⟨(List.replicate n.toNat c).toArray⟩ := by
          have := rep_sign c n.toNat []
          rw [List.nil_append] at this
          exact congrArg Str.mk this
        refine ⟨?_, fin _ _ _ hz⟩
        refine Nat.le_trans (m := n.toNat) ?_ (by have hs : sizeLine = 16777216 := sizeLine_eq; omega)
        have hz2 : (⟨(List.replicate n.toNat (⟨#[c]⟩ : Str).cps).foldl (· ++ ·) #[]⟩ : Str) = ⟨(List.replicate n.toNat c).toArray⟩ := hz
        rw [hz2]
        show ((List.replicate n.toNat c).toArray).size ≤ n.toNat
        simp
def mulS : D → D → Option D
  | .str z, .int n => if z.length = 1 ∧ 0 ≤ n ∧ n ≤ 1000000 then some (.str ⟨(List.replicate n.toNat (z.cps.getD 0 0)).toArray⟩) else none
  | _, _ => none
theorem ok_mulS {K : KB} : OpOk K rMulS mulS := by
  intro F H x y dx dy d fh h1 h2 hg Q k
  unfold mulS at hg
  split at hg
  · split at hg
    · rename_i z n hz
      cases hg
      obtain ⟨hz1, hz2, hz3⟩ := hz
      rw [show x = V.str _ from h1, show y = V.int _ from h2]
      have e : z = ⟨#[z.cps.getD 0 0]⟩ := by
        obtain ⟨a⟩ := z
        have ha : a.size = 1 := hz1
        congr 1
        refine Array.ext (by simp [ha]) fun i h1 h2 => ?_
        have : i = 0 := by simp at h2; omega
        subst this
        simp [ha]
      exact ⟨z.cps.getD 0 0, n, congrArg V.str e, rfl, hz2, hz3, ok_of_str fh k⟩
    · cases hg
  · cases hg
theorem di_mulS {X : Cx} {W : WX} {a b : Expr} {pos : Pos} {da db : Den D} (ha : DI X W a da) (hb : DI X W b db) : DI X W (.BinOp a .Mult b pos) (dbin da db mulS) := di_op op_mulS ok_mulS ha hb
end DL

/-! DMO: while, and comprehensions whose items change the slots. -/
namespace DL
open PySem PySem.Spec PyProof.Rows L2 Evl
/-- while: at most k turns are left -/
theorem sw_while {t : Den Bool} {b : SDen} {A : Aft} (Iv : Nat → Env → Prop) (hs : ∀ k e', Iv k e' → EW false t e' fun c e2 => BR c (∃ j, j < k ∧ SW b e2 ⟨Iv j, A.R, A.N, Iv j⟩) (A.N e2)) :
    ∀ (f k : Nat) (e : Env), k < f → Iv k e → SW (swhile t b f) e A
  | 0, k, e, hk, h => absurd hk (Nat.not_lt_zero _)
  | f + 1, k, e, hk, h => by
    unfold swhile
    rw [sw_bind]
    refine ew_imp (hs k e h) fun c e2 h2 => ?_
    cases c with
    | false => exact sw_next.mpr (h2.2 rfl)
    | true =>
      obtain ⟨j, hj, r, hr, p⟩ := h2.1 rfl
      have ih : ∀ e3, Iv j e3 → SW (swhile t b f) e3 A := fun e3 h3 => sw_while Iv hs f j e3 (by omega) h3
      show ∃ r, sturn (b e2) (swhile t b f) = some r ∧ _
      rw [hr]
      cases r with
      | nx m e3 =>
        obtain ⟨r2, h2, p2⟩ := ih e3 p
        show ∃ r, SRes.more m (swhile t b f e3) = some r ∧ _
        rw [h2]
        exact SP'.more p2
      | ct m e3 =>
        obtain ⟨r2, h2, p2⟩ := ih e3 p
        show ∃ r, SRes.more m (swhile t b f e3) = some r ∧ _
        rw [h2]
        exact SP'.more p2
      | bk m e3 => exact ⟨_, rfl, p⟩
      | rt m e3 x => exact ⟨_, rfl, p⟩
      | er m e3 x => exact False.elim p
section
variable {e : Env}
/-- a comprehension that threads the slots -/
theorem w_compS {γ : Type} {src : Den (List D)} {bind : D → Env → Option Env} {elt : Den Rv} {vs : List Nat} {P : Rv → Env → Prop} (l : List γ) (g : γ → D) (Iv : Nat → List O → Env → Prop)
    (p : EW false src e fun ds e' => ds = l.map g ∧ wiped e' vs = true ∧ l.length ≤ sizeLine ∧ Iv 0 [] (wipeE e' vs) ∧
      (∀ (i : Nat) (a : γ) (acc : List O) e1, l[i]? = some a → Iv i acc e1 → OP (bind (g a) e1) fun e2 => EW false elt e2 fun rv e3 => rvP rv e3 fun o e4 => Iv (i + 1) (acc ++ [o]) (wipeE e4 vs)) ∧
      ∀ acc e1, Iv l.length acc e1 → P (.new (.lst acc)) (restE e' e1 vs)) : EW false (dcomp src bind (dpure true) elt vs) e P := by
  obtain ⟨m, e', ds, k1, k2, rfl, k3, k4, k5, k6, k7⟩ := p
  unfold dcomp
  rw [ew_bind]
  refine ⟨m, e', l.map g, k1, k2, ?_⟩
  have key : ∀ (n : Nat) (r : List γ) (acc : List O) (e1 : Env), l.drop n = r → n + r.length = l.length → acc.length + r.length ≤ sizeLine → Iv n acc e1 → ∃ (m : Bool) (acc' : List O) (e2 : Env), cloop bind (dpure true) elt vs (r.map g) acc e1 = some (.ok m e2 acc') ∧ Iv l.length acc' e2 := by
    intro n r
    induction r generalizing n with
    | nil =>
      intro acc e1 hd hn _ hI
      have hn : n = l.length := hn
      subst hn
      exact ⟨false, acc, e1, rfl, hI⟩
    | cons a r ih =>
      intro acc e1 hd hn hz hI
      rw [List.length_cons] at hz hn
      have ha : l[n]? = some a := by
        have := congrArg (fun x => x[0]?) hd
        simpa using this
      obtain ⟨e2, h2, m2, e3, rv, h4, hm2, h5⟩ := k6 n a acc e1 ha hI
      obtain ⟨m3, e4, o, h6, _, hI2⟩ := w_rvO (q := false) h5
      obtain ⟨m, acc', e5, hc, hI3⟩ := ih (n + 1) (acc ++ [o]) (wipeE e4 vs) (by rw [← List.drop_drop, hd]; rfl) (by omega) (by rw [List.length_append]; show acc.length + 1 + r.length ≤ sizeLine; omega) hI2
      refine ⟨false || m2 || m, acc', e5, ?_, hI3⟩
      rw [List.map_cons]
      unfold cloop
      rw [h2]
      dsimp only [dpure]
      rw [h4]
      dsimp only
      rw [h6]
      dsimp only
      rw [if_pos (by omega), hc]
      rfl
  obtain ⟨m, acc, e2, hc, hI⟩ := key 0 l [] (wipeE e' vs) rfl (by simp) (by simpa using k4) k5
  refine ⟨m, restE e' e2 vs, _, ?_, (fun z => by cases z), k7 acc e2 hI⟩
  dsimp only
  rw [if_pos k3, hc]
end
end DL

/-! DMP: own errors: made, raised, caught, asked. -/
namespace DL
open PySem PySem.Spec PyProof.Rows L2 Evl

/-! ### making and raising -/
/-- what an own error's __init__ leaves: its one field -/
def spKept (K : PySem.W.Frag) (f : Str) : Sp := fun vs H Q _ => ∃ (a C : Addr) (y : V), vs = [.ref a, y] ∧ OexC K C ∧ PySem.W.findIn K (.ref C) f = some none ∧ H a = some (exo a C none) ∧
  ∀ dx, H dx = none → dx ≠ a → Q .non (upd (upd H dx (exd dx [(f, y)])) a (exo a C (some dx)))
def tKept (K : PySem.W.Frag) (f msg : Str) : TS := tSeq (tDrop (tVeI K (tCons (tVar 0) (tCons (tC (.str msg)) tNil)))) (tOst K f (tVar 0) (tVar 1))
theorem ok_kept {P : Program} {w : World} {K : PySem.W.Frag} {mg : Str → Option Value} {base : Heap} {x qual fld msg : Str} {st : Stmt} {f : Addr} {fd : FuncData} {k : Nat} {ps : List Str} (hps : ps.length = 2) (Fn : Df K x qual st f fd) (S : FnScope ps ps (defScope st))
    (hb : ∀ (cdv : Value) (A : Around) (outer : List PySem.Env) (s : Shared) (H : Hp) (E : XK), Room k (A.deeper (envOfC qual (defScope st) s.heap.objs.size f cdv)) →
      PSs (cxOf (L2.CX P w) P w K mg base ps qual (defScope st) f cdv A outer s H E) (defBody st) (tKept K fld msg)) :
    FnOk P w K mg base (L2.CX P w) (k + 1) f fd ps (spKept K fld) := by
  obtain ⟨oc, od, dV, kV, doc, pm, an, cdv, ct, osl, rfl, lk, hcd⟩ := Fn.ex
  refine L2.fn_of lk hcd S (fun vs H Q E h => ?_) (fun A outer s H vs Q E hr h => ⟨tKept K fld msg, hb cdv A outer s H E hr, ?_⟩)
  · obtain ⟨a, C, y, e, _⟩ := h
    rw [e, hps]
    rfl
  · obtain ⟨a, C, y, e, T, hno, ha, q⟩ := h
    subst e
    have s0 : (L2.start ps [V.ref a, y])[0]? = some (some (.ref a)) := rfl
    have s1 : (L2.start ps [V.ref a, y])[1]? = some (some y) := rfl
    exact ⟨_, s0, a, C, [.str msg], rfl, by show 1 ≤ 1000; decide, T, ha, y, s1, _, s0, a, C, rfl, T, hno, .inl ⟨ha, q⟩⟩
/-- an own error's class, by the name that the module has for it -/
structure ExcK (K : PySem.W.Frag) (mg : Str → Option Value) (c : Str) (C fI : Addr) : Prop where
  gC : mg c = some (.ref C)
  T : OexC K C
  no : PySem.W.findIn K (.ref C) "what" = some none
  iC : PySem.W.findIn K (.ref C) "__init__" = some (some (.ref fI))
def xn (c : Str) (d : D) : Xn := ⟨c, [("what", d)]⟩
def sraise (c : Str) (d : Den D) : SDen := sbind d fun x e => some (.er false e (xn c x))
theorem ds_raise {X : Cx} {W : WX} {a : Expr} {p pos pos2 : Pos} {c : Str} {C fI : Addr} {fd : FuncData} {k : Nat} {ps : List Str} {den : Den D} (Z : ExcK X.K X.mg c C fI) (tI : PySem.W.typeIn X.K (.ref fI) = some (.type "function"))
    (F1 : FnOk X.prog X.w X.K X.mg X.base (L2.CX X.prog X.w) k fI fd ps (spKept X.K "what")) (hr : Room (k + 1) X.A) (hb : Binds X.K fd ps []) (hc : X.calm = true) (tk : Takes X W) (hg : Gl X c) (ha : DI X W a den)
    (hdb : (c == ("__debug__" : Str)) = false := by decide) (he : starEach (a :: []) X.env = (false, eval a X.env) :: starEach [] X.env := by rfl) (hpl : (backTo pos (starEach [] X.env)).any (·.1) = false := by rfl) :
    DS X W (.Raise (some (.Call (.Name c p) [a] [] pos)) none pos2) (sraise c den) := by
  have pas : Passes (L2.CX X.prog X.w) X (fun _ _ _ => False) := fun pins σ H s e s' I z => by
    obtain ⟨_, _, _, _, _, _, _, _, _, _, _, _, z⟩ := z
    exact z.elim
  refine ⟨ps_weak (ps_raise hc tk (pmk_oex Z.T Z.iC tI F1 hr hb Paired.nil pas hg Z.gC (pa_cons ha.run pa_nil he) hdb he hpl)) fun D σ H q => ?_⟩
  obtain ⟨cx, F, e, ts, R, q⟩ := q
  refine ⟨cx, F, e, ts, R, q.sbind (rel := relI) fun F1 H1 e1 x v ef hr1 q1 => ?_⟩
  obtain ⟨R1, hv⟩ := hr1
  obtain ⟨r, hr2, post⟩ := q1
  cases hr2
  refine ⟨by show 1 ≤ 1000; decide, fun a ha => ⟨a, C, v, rfl, Z.T, Z.no, upd_same, fun dx hdx hne => ⟨rfl, dx, [("what", v)], upd_same, ?_, ?_, ?_⟩⟩⟩
  · rw [upd_ne hne]
    exact upd_same
  · rw [upd_ne hne] at hdx
    exact hdx
  · rw [upd_ne hne] at hdx
    have e4 : upd (del (upd (upd (upd H1 a (exo a C none)) dx (exd dx [("what", v)])) a (exo a C (some dx))) a) dx (.xd [("what", v)]) = upd H1 dx (.xd [("what", v)]) := by
      funext z
      by_cases h1 : z = dx
      · subst h1
        rw [upd_same, upd_same]
      · rw [upd_ne h1, upd_ne h1]
        by_cases h2 : z = a
        · subst h2
          rw [del_same, ha]
        · rw [del_ne h2, upd_ne h2, upd_ne h1, upd_ne h2]
    rw [e4]
    have hF : F1 dx = none := none_of_ex R1.fh hdx
    exact post _ _ σ (.ref C) (some dx) (Ex.new hF) (fun _ => Ex.new hdx) (R1.newF hdx) ⟨⟨C, Z.gC, rfl⟩, [v], upd_same, v, [], rfl, Rep.mono (Ex.new hF) _ _ hv, rfl⟩

/-! ### catching -/
def goneD (D : Ends) : Option Nat → Ends
  | none => D
  | some i => { nx := fun σ H => D.nx (σ.set i none) H, rt := D.rt, bk := fun σ H => D.bk (σ.set i none) H, ct := fun σ H => D.ct (σ.set i none) H }
def heldS (σ : L2.St) (a : Addr) : Option Nat → L2.St
  | none => σ
  | some i => σ.set i (some (.ref a))
abbrev Cl := Value × Option Nat × (Addr → Value → Option Addr → TS)
/-- what the clauses want of an error of the body -/
def wCl (K : PySem.W.Frag) (Wout : WX) (D : Ends) : List Cl → WX
  | [] => Wout
  | (c, io, ts) :: r => fun cls d σ H => ∃ b, PySem.W.exmOne K cls c = some b ∧ (b = true → ∀ a, H a = none → ts a cls d (goneD D io) (heldS σ a io) H) ∧ (b = false → wCl K Wout D r cls d σ H)
abbrev SuOk (X : Cx) (su : List Stmt) (ts : Addr → Value → Option Addr → TS) : Prop :=
  ∀ (a : Addr) (oe : Obj) (cls : Value) (d : Option Addr) (pn : List (Addr × Obj)), Zc cls d oe → (∃ vs, oe.data = .fields vs) → PSs (X.suite a ((a, oe) :: pn)) su (ts a cls d)
inductive ClOk (X : Cx) : List ExceptHandler → List Cl → Prop
  | nil : ClOk X [] []
  | only {x : Str} {c : Value} {ts : Addr → Value → Option Addr → TS} {b : Stmt} {su : List Stmt} {p q : Pos} {hs : List ExceptHandler} {l : List Cl} (hc : Names X x c) (hsu : SuOk X (b :: su) ts) (r : ClOk X hs l) :
      ClOk X (.ExceptHandler (some (.Name x p)) none (b :: su) q :: hs) ((c, none, ts) :: l)
  | as {x n : Str} {i : Nat} {c : Value} {ts : Addr → Value → Option Addr → TS} {b : Stmt} {su : List Stmt} {p q : Pos} {hs : List ExceptHandler} {l : List Cl} (hi : X.N[i]? = some n) (hl : X.env.kindOf n = some .local) (hc : Names X x c) (hsu : SuOk X (b :: su) ts)
      (r : ClOk X hs l) : ClOk X (.ExceptHandler (some (.Name x p)) (some n) (b :: su) q :: hs) ((c, some i, ts) :: l)
section
variable {X : Cx} {pins : List (Addr × Obj)} {Wout : WX} {B : Heap} {sI s1 : Shared} {σ : L2.St} {H : Hp} {a : Addr} {cls : Value} {d : Option Addr} {D : Ends}
/-- an error that landed in the frame: it isn't one of the frames, its object is told -/
theorem landed_at {h : Heap} (hf : X.env.frame = some X.env.locals) (fl : HandSPX.FlyingZ B (X.env :: X.outer) a (Zc cls d) h) : (a ≠ X.env.locals ∧ a ∉ X.fs) ∧ ∃ o vs, h.get? a = some o ∧ Zc cls d o ∧ o.data = .fields vs := by
  obtain ⟨o, vs, ho, hz, hd⟩ := fl.there
  have key : a ∉ frs (X.env :: X.outer) := fun hm => by
    obtain ⟨_, o2, ho2, hn⟩ := fl.2.2.1.mem hm
    rw [ho] at ho2
    cases ho2
    exact hn vs hd
  refine ⟨⟨fun z => key (List.mem_filterMap.mpr ⟨_, List.mem_cons_self, by rw [hf, z]⟩), fun z => key ?_⟩, o, vs, ho, hz, hd⟩
  obtain ⟨e, m, z2⟩ := List.mem_filterMap.mp z
  exact List.mem_filterMap.mpr ⟨e, List.mem_cons_of_mem _ m, z2⟩
theorem clauses_ok (hs : X.stack = X.env :: X.outer) (hf : X.env.frame = some X.env.locals) (hN : X.N.Nodup) (tk : Takes X Wout) (ok : X.Ok) (J : Inv X pins σ H sI) (nb : ∀ b o, sI.heap.get? b = some o → b ∉ frs X.stack → B.get? b = some o)
    (up : sI.heap.UpToSlots s1.heap) (fl : HandSPX.FlyingZ B (X.env :: X.outer) a (Zc cls d) s1.heap) (na : H a = none) (os : s1.os = sI.os) (ag : AllBare s1.gens) {l : List Cl} {hds : List ExceptHandler} (hk : ClOk X hds l) :
    wCl X.K Wout D l cls d σ H → wpAny (model X.prog X.w) X.A (handleBy (.ref a) X.env hds) (SP X pins D) X.xe s1 := by
  obtain ⟨⟨nL, nF⟩, o, vs, ho, hz, hd⟩ := landed_at hf fl
  have J1 : Inv X pins σ H s1 := by
    have z := J.landed nb fl.1 up os ag
    exact z
  have S1 := J1.suite ho hd na nL nF
  have lt : PySem.W.Looks (model X.prog X.w) s1.heap (typeOf (.ref a)) cls := fun A' Q' E' s' k' q' => wpAny_typeOf_ref (k' _ _ ho) (by rw [hz.1]; exact q')
  have named : ∀ {x : Str} {c : Value} {p : Pos} {Q : Value → Shared → Prop} {E : Value → Shared → Prop}, Names X x c → Q c s1 → wpAny (model X.prog X.w) (X.A.mark (some (.ref a))) (eval (.Name x p) X.env) Q E s1 := fun {x c p Q E} hc q => by
    obtain ⟨g1, g2, m1 | ⟨m1, m2, m3⟩⟩ := hc
    · exact ld_glob (X := X.suite a ((a, o) :: (X.pn ++ pins))) S1 g1 m1 q g2
    · exact ld_blt (X := X.suite a ((a, o) :: (X.pn ++ pins))) S1 g1 m1 m2 q m3 g2
  -- the error's flight ends in the suite
  have land : ∀ {N : Unit → Shared → Prop} {E : Value → Shared → Prop}, (∀ h2 o2, (∃ ws, o2.data = .fields ws) → Zc cls d o2 → Inv (X.suite a ((a, o2) :: (X.pn ++ pins))) [] σ H { s1 with heap := h2 } → N () { s1 with heap := h2 }) →
      wpAny (model X.prog X.w) (X.A.mark (some (.ref a))) (setFlight (.ref a) none) N E s1 := fun {N E} k => HandSPX.lands_againZ fl fun h2 fl2 up2 => by
    have J2 : Inv X pins σ H { s1 with heap := h2 } := J.landed nb fl2.1 (up.trans up2) os ag
    obtain ⟨o2, ws, ho2, hz2, hd2⟩ := fl2.there
    exact k h2 o2 ⟨ws, hd2⟩ hz2 (J2.suite ho2 hd2 na nL nF)
  induction hk with
  | nil =>
    intro w
    refine wpAny_handleBy_nil ?_
    obtain ⟨_, _, _, oe, ws, T, _, _, g1, _, g2, g3, _⟩ := id fl
    unfold PySem.passOn
    refine wpAny_bind (wpAny_field g1 g2 g3 ?_)
    rw [if_neg (show ¬ ((Value.ref T == Value.none) = true) from by simp)]
    have away : wpAny (model X.prog X.w) X.A (setFlight (.ref a) X.env.frame) (fun _ s4 => wpAny (model X.prog X.w) X.A (throw (.ref a) : Sem Flow) (SP X pins D) X.xe s4) X.xe s1 := by
      rw [hf]
      refine HandSPX.setFlight_upZ fl fun h4 hh up4 => wpAny_throw (tk _ _ ?_)
      refine ⟨a, B, sI, pins, σ, H, cls, d, rfl, J, nb, up.trans up4, .inr (.inr ?_), na, os, ag, w⟩
      rw [hs]
      exact hh
    first
      | exact wpAny_bind (wpAny_pure (wpAny_bind away))
      | exact wpAny_bind away
  | @only x c ts b su p q hds l hc hsu r ih =>
    rintro ⟨k, hk, yes, no⟩
    refine wpAny_handleBy_cons (codeAny_handlers_test (named hc ((PySem.W.exm_one (M := model X.prog X.w) J1.kIn lt hk).here ?_))) fun z => nomatch z
    cases k with
    | false => exact ih (no rfl)
    | true =>
      refine codeAny_handlers_suite (land fun h2 o2 hd2 hz2 S2 => ?_)
      refine wpAny_mono ((hsu a o2 cls d (X.pn ++ pins) hz2 hd2).run [] _ σ H D S2 (yes rfl a na)) (fun fl6 s6 hsp => ?_) fun _ _ z => z.elim
      cases fl6 with
      | next => exact hsp.elim fun σ6 y => y.elim fun H6 y => ⟨σ6, H6, y.1.unsuite ok, y.2⟩
      | brk => exact hsp.elim fun σ6 y => y.elim fun H6 y => ⟨σ6, H6, y.1.unsuite ok, y.2⟩
      | cont => exact hsp.elim fun σ6 y => y.elim fun H6 y => ⟨σ6, H6, y.1.unsuite ok, y.2⟩
      | ret u =>
        obtain ⟨v6, σ6, H6, y1, y2, y3⟩ := hsp
        exact ⟨v6, σ6, H6, y1.unsuite ok, y2, y3⟩
  | @as x n i c ts b su p q hds l hi hl hc hsu r ih =>
    rintro ⟨k, hk, yes, no⟩
    refine wpAny_handleBy_cons (codeAny_handlers_test (named hc ((PySem.W.exm_one (M := model X.prog X.w) J1.kIn lt hk).here ?_))) fun z => nomatch z
    cases k with
    | false => exact ih (no rfl)
    | true =>
      refine codeAny_handlers_suite_as (land fun h2 o2 hd2 hz2 S2 => ?_)
      refine store_ok (X := X.suite a ((a, o2) :: (X.pn ++ pins))) (v := .ref a) S2 hN hi (Or.inl hl) rfl (fun s5 S5 => ?_) (Or.inr hl)
      refine wpAny_mono ((hsu a o2 cls d (X.pn ++ pins) hz2 hd2).run [] s5 _ H _ S5 (yes rfl a na)) (fun fl6 s6 hsp => ?_) fun _ _ z => z.elim
      have fin : ∀ {σ6 : L2.St} {H6 : Hp} {N : Shared → Prop}, Inv (X.suite a ((a, o2) :: (X.pn ++ pins))) [] σ6 H6 s6 → (∀ s7, Inv X pins (σ6.set i none) H6 s7 → N s7) →
          wpAny (model X.prog X.w) X.A (do bindName X.env n .none; unbindBehindTheSuite X.env n q) (fun _ s7 => N s7) X.xe s6 := fun {σ6 H6 N} y z => gone_ok (y.unsuite ok) hN hi hl z
      cases fl6 with
      | next => exact hsp.elim fun σ6 y => y.elim fun H6 y => fin y.1 fun s7 z => ⟨_, H6, z, y.2⟩
      | brk => exact hsp.elim fun σ6 y => y.elim fun H6 y => fin y.1 fun s7 z => ⟨_, H6, z, y.2⟩
      | cont => exact hsp.elim fun σ6 y => y.elim fun H6 y => fin y.1 fun s7 z => ⟨_, H6, z, y.2⟩
      | ret u =>
        obtain ⟨v6, σ6, H6, y1, y2, y3⟩ := hsp
        exact fin y1 fun s7 z => ⟨v6, _, H6, z, y2, y3⟩
theorem ps_try {body : List Stmt} {h₀ : ExceptHandler} {hds : List ExceptHandler} {l : List Cl} {pos : Pos} {tb : WX → TS} (hs : X.stack = X.env :: X.outer) (hf : X.env.frame = some X.env.locals) (hN : X.N.Nodup) (tk : Takes X Wout)
    (hb : ∀ (W : WX) (pn : List (Addr × Obj)) (xe : Value → Shared → Prop), Takes (X.tr pn xe) W → PassesOwn (model X.prog X.w) X.A X.env xe → PSs (X.tr pn xe) body (tb W)) (hh : ClOk X (h₀ :: hds) l) :
    PS X (.Try body (h₀ :: hds) [] [] pos) (fun D σ H => tb (wCl X.K Wout D l) D σ H) := by
  refine ⟨fun pins s σ H D I h => wpAny_Try_except ?_⟩
  have ok := I.ok
  have hfr : X.A.frames = some (X.env :: X.outer) := ok.frames.trans (by rw [hs])
  let wish : Value → Shared → Prop := fun e s₁ => wpAny (model X.prog X.w) X.A (noteFrame e X.env) (fun _ s₂ => wpAny (model X.prog X.w) X.A (setFlight e none) (fun _ s₃ => wpAny (model X.prog X.w) X.A (handleBy e X.env (h₀ :: hds)) (SP X pins D) X.xe s₃) X.xe s₂) X.xe s₁
  have tw : Takes (X.tr (X.pn ++ pins) wish) (wCl X.K Wout D l) := fun u s' z => by
    obtain ⟨a, B, sI, pins', σ', H', cls, d, rfl, J, nb, up, sky, na, os, ag, w⟩ := z
    have sky2 : Sky B (X.env :: X.outer) a (Zc cls d) X.env.locals s'.heap := by
      rw [← hs]
      exact sky
    exact Sky.land Zc.steady hfr hf sky2 fun h3 fl3 up3 => clauses_ok (s1 := { s' with heap := h3 }) hs hf hN tk ok (J.ofTry ok) nb (up.trans up3) fl3 na os ag hh w
  refine wpAny_mono ((hb _ _ wish tw PassesOwn.looking).run [] s σ H D (I.toTry _) h) (fun f s1 hsp => ?_) fun _ _ z => z
  cases f with
  | next => exact hsp.elim fun σ6 y => y.elim fun H6 y => wpAny_execs_nil ⟨σ6, H6, y.1.ofTry ok, y.2⟩
  | brk => exact hsp.elim fun σ6 y => y.elim fun H6 y => ⟨σ6, H6, y.1.ofTry ok, y.2⟩
  | cont => exact hsp.elim fun σ6 y => y.elim fun H6 y => ⟨σ6, H6, y.1.ofTry ok, y.2⟩
  | ret u =>
    obtain ⟨v6, σ6, H6, y1, y2, y3⟩ := hsp
    exact ⟨v6, σ6, H6, y1.ofTry ok, y2, y3⟩
end
end DL

/-! DMQ: try and its clauses as data; what a clause asks of its error. -/
namespace DL
open PySem PySem.Spec PyProof.Rows L2 Evl

section
variable {K : KB} {c : Ctx} {F H : Hp} {σ : L2.St} {e : Env} {ts : List (V × O)}
theorem RE.blank {i : Nat} {x : Option V} (R : RE K c F H σ e ts) (hi : e.free i = true) : RE K c F H (σ.set i x) (e.set i none) ts := by
  obtain ⟨hs, fs, h1, h2, h3, h4⟩ := R.hd
  obtain ⟨A, M, B, k1, _, k3⟩ := h1.put i hi
  subst k1
  rw [← List.append_assoc] at h2
  obtain ⟨f1, f2, e1, h5, h6⟩ := h2.split
  obtain ⟨g1, g2, e2, h7, h8⟩ := h6.split
  subst e2
  subst e1
  have sub : (f1 ++ g2).Sublist (f1 ++ (g1 ++ g2)) := List.Sublist.append_left (List.sublist_append_right g1 g2) f1
  refine ⟨R.g, R.f0, R.fh, R.nw, _, f1 ++ g2, k3 x, ?_, h3.sublist sub, fun p hp => h4 p (sub.subset hp)⟩
  rw [← List.append_assoc]
  exact Held.join h5 h8
end
/-! ### the clauses -/
def excSlot (x : Xn) (a dd : Addr) : Slot := some (false, .im (.exc x.cls a dd (x.fs.map (·.1)) (x.fs.map (·.2))))
structure Hand where
  subs : List (Str × Bool)
  io : Option Nat
  s : Addr → Addr → Str → SDen
def clrE : Option Nat → Env → Option Env
  | none, e => some e
  | some i, e => if e.free i = true then some (e.set i none) else none
def clr (io : Option Nat) : SRes → Option SRes
  | .nx m e => (clrE io e).map fun e => .nx m e
  | .rt m e r => match r with
    | .bor j o => if io = some j then none else (clrE io e).map fun e => .rt m e r
    | r => (clrE io e).map fun e => .rt m e r
  | .bk m e => (clrE io e).map fun e => .bk m e
  | .ct m e => (clrE io e).map fun e => .ct m e
  | .er _ _ _ => none
/-- the same, wherever the error lies -/
noncomputable def uni (f : Addr → Addr → Option SRes) : Option SRes := by
  classical exact if ∀ a dd, f a dd = f 0 0 then f 0 0 else none
theorem uni_at {f : Addr → Addr → Option SRes} {r : SRes} (h : uni f = some r) (a dd : Addr) : f a dd = some r := by
  unfold uni at h
  split at h
  · rename_i z
    rw [z a dd]
    exact h
  · cases h
theorem uni_of {f : Addr → Addr → Option SRes} (h : ∀ a dd, f a dd = f 0 0) : uni f = f 0 0 := if_pos h
noncomputable def scatch (x : Xn) (e : Env) (m : Bool) : List Hand → Option SRes
  | [] => some (.er m e x)
  | h :: r => match h.subs.lookup x.cls with
    | none => none
    | some false => scatch x e m r
    | some true => SRes.more m (match h.io with
      | none => uni fun a dd => (h.s a dd x.cls e).bind (clr none)
      | some i => if e.free i = true ∧ x.fs.isEmpty = false then uni fun a dd => (h.s a dd x.cls (e.set i (excSlot x a dd))).bind (clr (some i)) else none)
noncomputable def stry (b : SDen) (hs : List Hand) : SDen := fun e => match b e with
  | some (.er m e1 x) => scatch x e1 m hs
  | r => r
abbrev SuD (X : Cx) (nm : Bool) (su : List Stmt) (subs : List (Str × Bool)) (s : Addr → Addr → Str → SDen) : Prop :=
  ∀ (a dd : Addr) (oe : Obj) (x : Str) (C : Addr) (d : Option Addr) (pn : List (Addr × Obj)), subs.lookup x = some true → X.mg x = some (.ref C) → Zc (.ref C) d oe → (nm = true → d = some dd) → (∃ vs, oe.data = .fields vs) → DSs (X.suite a ((a, oe) :: pn)) (fun _ _ _ _ => False) su (s a dd x)
abbrev SubsOk (X : Cx) (c : Value) (subs : List (Str × Bool)) : Prop := ∀ y b, subs.lookup y = some b → ∀ C, X.mg y = some (.ref C) → PySem.W.exmOne X.K (.ref C) c = some b
inductive HandOk (X : Cx) : List ExceptHandler → List Hand → Prop
  | nil : HandOk X [] []
  | only {x : Str} {c : Value} {s : Addr → Addr → Str → SDen} {subs : List (Str × Bool)} {b : Stmt} {su : List Stmt} {p q : Pos} {hs : List ExceptHandler} {l : List Hand} (hc : Names X x c) (hsub : SubsOk X c subs) (hsu : SuD X false (b :: su) subs s) (r : HandOk X hs l) :
      HandOk X (.ExceptHandler (some (.Name x p)) none (b :: su) q :: hs) (⟨subs, none, s⟩ :: l)
  | as {x n : Str} {i : Nat} {c : Value} {s : Addr → Addr → Str → SDen} {subs : List (Str × Bool)} {b : Stmt} {su : List Stmt} {p q : Pos} {hs : List ExceptHandler} {l : List Hand} (hi : X.N[i]? = some n) (hl : X.env.kindOf n = some .local) (hc : Names X x c) (hsub : SubsOk X c subs) (hsu : SuD X true (b :: su) subs s)
      (r : HandOk X hs l) : HandOk X (.ExceptHandler (some (.Name x p)) (some n) (b :: su) q :: hs) (⟨subs, some i, s⟩ :: l)
/-- the reading of a clause's suite -/
def tSu (X : Cx) (nm : Bool) (subs : List (Str × Bool)) (s : Addr → Addr → Str → SDen) (a : Addr) (cls : Value) (d : Option Addr) : TS := fun D σ H =>
  ∃ (x : Str) (C dd : Addr), subs.lookup x = some true ∧ X.mg x = some (.ref C) ∧ cls = .ref C ∧ (nm = true → d = some dd) ∧ rdS X.B (fun _ _ _ _ => False) (s a dd x) D σ H
theorem su_ok {X : Cx} {nm : Bool} {su : List Stmt} {subs : List (Str × Bool)} {s : Addr → Addr → Str → SDen} (h : SuD X nm su subs s) : SuOk X su (tSu X nm subs s) := fun a oe cls d pn hz hf => ⟨fun pins sh σ H D I q => by
  obtain ⟨x, C, dd, h1, h2, h3, h4, q⟩ := q
  subst h3
  exact (h a dd oe x C d pn h1 h2 hz h4 hf).run.run pins sh σ H D I q⟩
def clOf (X : Cx) : List Hand → List Value → List Cl
  | h :: hs, c :: cs => (c, h.io, tSu X h.io.isSome h.subs h.s) :: clOf X hs cs
  | _, _ => []
theorem hand_cl {X : Cx} {hds : List ExceptHandler} {l : List Hand} (h : HandOk X hds l) : ∃ cs, cs.length = l.length ∧ ClOk X hds (clOf X l cs) ∧ ∀ (i : Nat) (hd : Hand) (c : Value), l[i]? = some hd → cs[i]? = some c → SubsOk X c hd.subs := by
  induction h with
  | nil => exact ⟨[], rfl, .nil, fun i hd c e => by simp at e⟩
  | @only x c s subs b su p q hs l hc hsub hsu r ih =>
    obtain ⟨cs, h1, h2, h3⟩ := ih
    refine ⟨c :: cs, by simp [h1], .only hc (su_ok hsu) h2, fun i hd c' e1 e2 => ?_⟩
    cases i with
    | zero => cases e1; cases e2; exact hsub
    | succ i => exact h3 i hd c' (by simpa using e1) (by simpa using e2)
  | @as x n i c s subs b su p q hs l hi hl hc hsub hsu r ih =>
    obtain ⟨cs, h1, h2, h3⟩ := ih
    refine ⟨c :: cs, by simp [h1], .as hi hl hc (su_ok hsu) h2, fun i hd c' e1 e2 => ?_⟩
    cases i with
    | zero => cases e1; cases e2; exact hsub
    | succ i => exact h3 i hd c' (by simpa using e1) (by simpa using e2)
section
variable {X : Cx} {W : WX} {c : Ctx} {F H : Hp} {σ : L2.St} {e : Env} {ts : List (V × O)} {D : Ends}
/-- a suite that ended: its name goes -/
theorem postS_clr {io : Option Nat} {r r' : SRes} (hc : clr io r = some r') (post : PostS X.B W D c F ts H r') : PostS X.B (fun _ _ _ _ => False) (goneD D io) c F ts H r := by
  have key : ∀ {e e' : Env} {F' H' : Hp} {σ' : L2.St}, clrE io e = some e' → RE X.B c F' H' σ' e ts → RE X.B c F' H' (match io with | none => σ' | some i => σ'.set i none) e' ts := by
    intro e e' F' H' σ' he R
    cases io with
    | none => cases he; exact R
    | some i =>
      have he : (if e.free i = true then some (e.set i none) else none) = some e' := he
      split at he
      · rename_i hf
        cases he
        exact R.blank hf
      · cases he
  cases r with
  | nx m e =>
    obtain ⟨e', he, rfl⟩ := Option.map_eq_some_iff.mp hc
    intro F' H' σ' ef eh R
    cases io with
    | none => exact post F' H' _ ef eh (key he R)
    | some i => exact post F' H' _ ef eh (key he R)
  | bk m e =>
    obtain ⟨e', he, rfl⟩ := Option.map_eq_some_iff.mp hc
    intro F' H' σ' ef eh R
    cases io with
    | none => exact post F' H' _ ef eh (key he R)
    | some i => exact post F' H' _ ef eh (key he R)
  | ct m e =>
    obtain ⟨e', he, rfl⟩ := Option.map_eq_some_iff.mp hc
    intro F' H' σ' ef eh R
    cases io with
    | none => exact post F' H' _ ef eh (key he R)
    | some i => exact post F' H' _ ef eh (key he R)
  | er m e x => cases hc
  | rt m e rv =>
    have rt_eq : (goneD D io).rt = D.rt := by cases io <;> rfl
    show ∀ F' H' σ' v, Ex F F' → (m = false → Ex H H') → relR X.B c F' H' σ' e ts rv v → (goneD D io).rt v H'
    rw [rt_eq]
    intro F' H' σ' v ef eh hr
    cases rv with
    | im d =>
      obtain ⟨e', he, rfl⟩ := Option.map_eq_some_iff.mp hc
      exact post F' H' _ v ef eh ⟨key he hr.1, hr.2⟩
    | new o =>
      obtain ⟨e', he, rfl⟩ := Option.map_eq_some_iff.mp hc
      have R : RE X.B c F' H' σ' e ((v, o) :: ts) := hr
      have R2 : ∃ σ2, RE X.B c F' H' σ2 e' ((v, o) :: ts) := by
        cases io with
        | none => cases he; exact ⟨_, R⟩
        | some i =>
          have he : (if e.free i = true then some (e.set i none) else none) = some e' := he
          split at he
          · rename_i hf
            cases he
            exact ⟨_, R.blank (x := none) hf⟩
          · cases he
      obtain ⟨σ2, R2⟩ := R2
      exact post F' H' σ2 v ef eh R2
    | bor j o =>
      have hc' : (if io = some j then none else (clrE io e).map fun e => SRes.rt m e (.bor j o)) = some r' := hc
      split at hc'
      · cases hc'
      · rename_i hne
        obtain ⟨e', he, rfl⟩ := Option.map_eq_some_iff.mp hc'
        obtain ⟨R, hv, b, hb⟩ := hr
        refine post F' H' _ v ef eh ⟨key he R, ?_, b, ?_⟩
        · cases io with
          | none => exact hv
          | some i =>
            have hij : i ≠ j := fun z => hne (by rw [z])
            show (σ'.set i none)[j]? = _
            rw [List.getElem?_set_ne hij]
            exact hv
        · cases io with
          | none => cases he; exact hb
          | some i =>
            have hij : i ≠ j := fun z => hne (by rw [z])
            have he : (if e.free i = true then some (e.set i none) else none) = some e' := he
            split at he
            · cases he
              rw [List.getElem?_set_ne hij]
              exact hb
            · cases he
theorem postS_mono {r r' : SRes} {m : Bool} {F1 H1 : Hp} {K : KB} (hm : SRes.more m (some r) = some r') (ef : Ex F F1) (eh : m = false → Ex H H1) (post : PostS K W D c F ts H r') : PostS K W D c F1 ts H1 r := by
  cases r with
  | nx m2 e2 => cases hm; exact fun F' H' σ' ef' eh' R => post F' H' σ' (ef.trans ef') (fun z => (eh (or_l z)).trans (eh' (or_r z))) R
  | rt m2 e2 rv => cases hm; exact fun F' H' σ' v ef' eh' R => post F' H' σ' v (ef.trans ef') (fun z => (eh (or_l z)).trans (eh' (or_r z))) R
  | bk m2 e2 => cases hm; exact fun F' H' σ' ef' eh' R => post F' H' σ' (ef.trans ef') (fun z => (eh (or_l z)).trans (eh' (or_r z))) R
  | ct m2 e2 => cases hm; exact fun F' H' σ' ef' eh' R => post F' H' σ' (ef.trans ef') (fun z => (eh (or_l z)).trans (eh' (or_r z))) R
  | er m2 e2 x => cases hm; exact fun F' H' σ' cls d ef' eh' R hx => post F' H' σ' cls d (ef.trans ef') (fun z => (eh (or_l z)).trans (eh' (or_r z))) R hx
/-- an error, caught: what the clauses want of it -/
theorem scatch_ok {x : Xn} {e1 : Env} {m : Bool} {cls : Value} {d : Option Addr} {F1 H1 : Hp} {σ1 : L2.St} (ef : Ex F F1) (eh : m = false → Ex H H1) (R : RE X.B c F1 H1 σ1 e1 ts) (hx : XRel X.B F1 H1 x cls d) : ∀ {l : List Hand} {cs : List Value} {r : SRes}, cs.length = l.length →
    (∀ (i : Nat) (hd : Hand) (c : Value), l[i]? = some hd → cs[i]? = some c → SubsOk X c hd.subs) → scatch x e1 m l = some r → PostS X.B W D c F ts H r → wCl X.K W D (clOf X l cs) cls d σ1 H1
  | [], cs, r, hl, hs, hr, post => by
    cases hr
    have q : W cls d σ1 H1 := post F1 H1 σ1 cls d ef eh R hx
    exact q
  | h :: l, [], r, hl, hs, hr, post => by cases hl
  | h :: l, cv :: cs, r, hl, hs, hr, post => by
    obtain ⟨⟨C, hC, rfl⟩, hd⟩ := id hx
    unfold scatch at hr
    cases hb : h.subs.lookup x.cls with
    | none => rw [hb] at hr; cases hr
    | some b =>
      rw [hb] at hr
      refine ⟨b, hs 0 h cv rfl rfl x.cls b hb C hC, fun hbt a na => ?_, fun hbf => ?_⟩
      · subst hbt
        dsimp only at hr
        obtain ⟨subs, io, s⟩ := h
        cases io with
        | none =>
          dsimp only at hr
          cases hu : uni (fun a dd => (s a dd x.cls e1).bind (clr none)) with
          | none => rw [hu] at hr; cases hr
          | some r0 =>
            rw [hu] at hr
            refine ⟨x.cls, C, d.getD 0, hb, hC, rfl, fun z => (by cases z), c, F1, e1, ts, R, ?_⟩
            obtain ⟨r1, h1, h2⟩ := Option.bind_eq_some_iff.mp (uni_at hu a (d.getD 0))
            exact ⟨r1, h1, postS_clr (io := none) h2 (postS_mono hr ef eh post)⟩
        | some i =>
          dsimp only at hr
          split at hr
          · rename_i hcond
            cases hu : uni (fun a dd => (s a dd x.cls (e1.set i (excSlot x a dd))).bind (clr (some i))) with
            | none => rw [hu] at hr; cases hr
            | some r0 =>
              rw [hu] at hr
              cases d with
              | none =>
                have z : x.fs = [] := hd
                rw [z] at hcond
                cases hcond.2
              | some dd =>
                obtain ⟨vs, hF, hrep⟩ := hd
                refine ⟨x.cls, C, dd, hb, hC, rfl, fun _ => rfl, c, F1, e1.set i (excSlot x a dd), ts, ?_, ?_⟩
                · have hl2 : (x.fs.map (·.1)).length = vs.length := by rw [List.length_map, ← hrep.length, List.length_map]
                  exact R.setIm hcond.1 (v := .ref a) (d := .exc x.cls a dd (x.fs.map (·.1)) (x.fs.map (·.2))) ⟨vs, rfl, hF, hl2, hrep⟩
                · obtain ⟨r1, h1, h2⟩ := Option.bind_eq_some_iff.mp (uni_at hu a dd)
                  exact ⟨r1, h1, postS_clr (io := some i) h2 (postS_mono hr ef eh post)⟩
          · cases hr
      · subst hbf
        exact scatch_ok ef eh R hx (by simpa using hl) (fun i hd c' e1 e2 => hs (i + 1) hd c' (by simpa using e1) (by simpa using e2)) hr post
end
theorem ds_try {X : Cx} {W : WX} {body : List Stmt} {h₀ : ExceptHandler} {hds : List ExceptHandler} {l : List Hand} {pos : Pos} {db : SDen} (hs : X.stack = X.env :: X.outer) (hf : X.env.frame = some X.env.locals) (hN : X.N.Nodup) (tk : Takes X W)
    (hb : ∀ (W' : WX) (pn : List (Addr × Obj)) (xe : Value → Shared → Prop), Takes (X.tr pn xe) W' → PassesOwn (model X.prog X.w) X.A X.env xe → DSs (X.tr pn xe) W' body db) (hh : HandOk X (h₀ :: hds) l) :
    DS X W (.Try body (h₀ :: hds) [] [] pos) (stry db l) := by
  obtain ⟨cs, hl, hcl, hsub⟩ := hand_cl hh
  refine ⟨ps_weak (ps_try (tb := fun W' => rdS X.B W' db) hs hf hN tk (fun W' pn xe t p => (hb W' pn xe t p).run) hcl) fun D σ H q => ?_⟩
  obtain ⟨c, F, e, ts, R, r, hr, post⟩ := q
  refine ⟨c, F, e, ts, R, ?_⟩
  unfold stry at hr
  cases hd : db e with
  | none => rw [hd] at hr; cases hr
  | some q =>
    rw [hd] at hr
    refine ⟨q, hd, ?_⟩
    cases q with
    | nx m e1 => cases hr; exact post
    | rt m e1 rv => cases hr; exact post
    | bk m e1 => cases hr; exact post
    | ct m e1 => cases hr; exact post
    | er m e1 x => exact fun F' H' σ' cls d ef eh R' hx => scatch_ok ef eh R' hx hl hsub hr post

/-! ### what a suite asks of its error -/
def dxf (a dd : Addr) (i : Nat) (f : Str) : Den D := fun e => match e[i]? with
  | some (some (_, .im (.exc _ a' dd' ns ds))) => if a' = a ∧ dd' = dd then ((ns.zip ds).lookup f).map fun d => .ok false e d else none
  | _ => none
def dxi (a dd : Addr) (i : Nat) (b : Option Bool) : Den D := fun e => match e[i]? with
  | some (some (_, .im (.exc _ a' dd' _ _))) => if a' = a ∧ dd' = dd then b.map fun b => .ok false e (.bl b) else none
  | _ => none
theorem lookup_rel {K : KB} {F : Hp} {f : Str} {d : D} : ∀ {ns : List Str} {ds : List D} {xs : List V}, Reps K F ds xs → (ns.zip ds).lookup f = some d → ∃ v, (ns.zip xs).lookup f = some v ∧ Rep K F d v
  | [], ds, xs, h, e => by simp at e
  | n :: ns, [], xs, h, e => by simp at e
  | n :: ns, d0 :: ds, xs, h, e => by
    obtain ⟨x, r, e1, h1, h2⟩ := h
    subst e1
    rw [List.zip_cons_cons, List.lookup_cons] at e ⊢
    cases q : f == n with
    | true =>
      rw [q] at e
      cases e
      exact ⟨x, rfl, h1⟩
    | false =>
      rw [q] at e
      exact lookup_rel h2 e
section
variable {X : Cx} {W : WX} {a dd C : Addr} {oe : Obj} {pn : List (Addr × Obj)} {ex ec : Expr} {pos p : Pos} {i : Nat} {f : Str} {d : Option Addr}
theorem di_xf (hz : Zc (.ref C) d oe) (hf : ∃ vs, oe.data = .fields vs) (T : XfC X.K C) (hno : PySem.W.findIn X.K (.ref C) f = some none) (h : PE (X.suite a ((a, oe) :: pn)) ex (tVar i)) (hsome : d = some dd)
    (hb : attributeBase ex f X.env (eval ex X.env) = eval ex X.env := by rfl) : DI (X.suite a ((a, oe) :: pn)) W (.Attribute ex f pos) (dxf a dd i f) := ⟨pe_weak (pe_xf T hno hz hf h hb) fun σ H Q q => by
  obtain ⟨c, F, e, ts, R, r, hr, post⟩ := q
  unfold dxf at hr
  split at hr
  · rename_i b c' a' dd' ns ds hs
    split at hr
    · rename_i hcond
      obtain ⟨rfl, rfl⟩ := hcond
      obtain ⟨d1, hl, rfl⟩ := Option.map_eq_some_iff.mp hr
      obtain ⟨v, hv, xs, rfl, hF, hlen, hrep⟩ := R.slotIm hs
      obtain ⟨v1, hl1, hr1⟩ := lookup_rel hrep hl
      exact ⟨_, hv, rfl, rfl, dd', _, v1, hsome, R.fh _ _ hF, hl1, post F H v1 (Ex.refl _) (fun _ => Ex.refl _) ⟨R, hr1⟩⟩
    · cases hr
  · cases hr⟩
structure XiC (K : PySem.W.Frag) (C : Addr) : Prop where
  cl : (PySem.W.clsIn K C).isSome = true
  xf : XfC K C
  ha : PySem.W.findIn K (.ref C) "__class__" = some (some (.builtin "object.__class__"))
  hn : PySem.W.specialIn K (.builtin "object.__class__") "__get__" = some (some (.builtin "getset_descriptor.__get__"))
  ht : PySem.W.takesIn K (.builtin "object.__class__") = some true
  hm : PySem.W.mroIn K C (.type "object") = some true
def rXi (K : PySem.W.Frag) (C a dd : Addr) : List V → Hp → VK → Prop := fun xs H Q => ∃ (c : V) (cv : Value) (b : Bool) (fs : List (Str × V)), xs = [.ref a, c] ∧ H dd = some (.xd fs) ∧ (∀ u, RelV c u → u = cv) ∧ PySem.W.kitOne K (.ref C) cv = some b ∧ Q (.bl b) H
theorem call_xi (T : XiC X.K C) (hz : Zc (.ref C) (some dd) oe) (hf : ∃ vs, oe.data = .fields vs) : CallR (X.suite a ((a, oe) :: pn)) (.builtin "isinstance") (rXi X.K C a dd) := by
  intro pins s σ H xs us Q I r h
  obtain ⟨c, cv, b, fs, rfl, hF, hcv, e, q⟩ := h
  cases r with
  | cons rx rr =>
    cases rr with
    | cons rt rr =>
      cases rr
      cases rx
      have ec := hcv _ rt
      subst ec
      obtain ⟨hget, _⟩ := I.pin (a, oe) (List.mem_append.mpr (.inl List.mem_cons_self))
      obtain ⟨vs, hv⟩ := hf
      obtain ⟨mA, hns, _⟩ : ∃ mA, s.heap.Ns1 dd mA ∧ ∀ f, RelO (fs.lookup f) (mA f) := I.hok dd _ hF
      obtain ⟨od, ho, _⟩ := lookIn_ns hns
      have J : PySem.W.InstAt s.heap a oe C (some od) := ⟨hget, hz.1, by unfold PySem.W.notCls; rw [hv] <;> rfl, by rw [hz.2]; exact ho⟩
      exact PySem.W.kia_one (PySem.W.kitx_exc T.cl T.xf.ga T.xf.gg T.xf.exC T.ha T.hn T.ht T.hm) I.kIn J e (fun z => nomatch z) fun tk => ⟨.bl b, H, I.kept (t' := tk) fun _ _ z => z, rfl, q⟩
theorem di_xi {vc : V} {cv : Value} {b : Option Bool} (hz : Zc (.ref C) d oe) (hsome : d = some dd) (hf : ∃ vs, oe.data = .fields vs) (T : XiC X.K C) (hcv : ∀ u, RelV vc u → u = cv) (hk : ∀ k, b = some k → PySem.W.kitOne X.K (.ref C) cv = some k)
    (hg : Gl (X.suite a ((a, oe) :: pn)) "isinstance") (hm : (X.suite a ((a, oe) :: pn)).mg "isinstance" = none) (h : PE (X.suite a ((a, oe) :: pn)) ex (tVar i)) (h2 : PE (X.suite a ((a, oe) :: pn)) ec (tC vc))
    (he : starEach (ex :: [ec]) X.env = (false, eval ex X.env) :: starEach [ec] X.env := by rfl) (he2 : starEach (ec :: []) X.env = (false, eval ec X.env) :: starEach [] X.env := by rfl) (hpl : (backTo pos (starEach [ec] X.env)).any (·.1) = false := by rfl) :
    DI (X.suite a ((a, oe) :: pn)) W (.Call (.Name "isinstance" p) [ex, ec] [] pos) (dxi a dd i b) := by
  subst hsome
  refine ⟨pe_weak (pe_callB (call_xi T hz hf) hg hm (by rfl) (pa_cons h (pa_cons h2 pa_nil he2) he) (by decide) (by decide) he hpl) fun σ H Q q => ?_⟩
  obtain ⟨c, F, e, ts, R, r, hr, post⟩ := q
  unfold dxi at hr
  split at hr
  · rename_i bb c' a' dd' ns ds hs
    split at hr
    · rename_i hcond
      obtain ⟨rfl, rfl⟩ := hcond
      obtain ⟨k, hk1, rfl⟩ := Option.map_eq_some_iff.mp hr
      obtain ⟨v, hv, xs, rfl, hF, hlen, hrep⟩ := R.slotIm hs
      exact ⟨_, hv, vc, cv, k, _, rfl, R.fh _ _ hF, hcv, hk k hk1, post F H (.bl k) (Ex.refl _) (fun _ => Ex.refl _) ⟨R, rfl⟩⟩
    · cases hr
  · cases hr
end
/-! ### tables of classes -/
section
variable {K : PySem.W.Frag} {mg : Str → Option Value}
abbrev SubsT (K : PySem.W.Frag) (mg : Str → Option Value) (c : Value) (subs : List (Str × Bool)) : Prop := ∀ y b, subs.lookup y = some b → ∀ C, mg y = some (.ref C) → PySem.W.exmOne K (.ref C) c = some b
theorem subsT_nil {c : Value} : SubsT K mg c [] := fun y b h => by cases h
theorem subsT_cons {c : Value} {y : Str} {b : Bool} {C : Addr} {l : List (Str × Bool)} (h : mg y = some (.ref C)) (k : PySem.W.exmOne K (.ref C) c = some b) (r : SubsT K mg c l) : SubsT K mg c ((y, b) :: l) := fun z b2 e C2 h2 => by
  rw [List.lookup_cons] at e
  cases q : z == y with
  | false => rw [q] at e; exact r z b2 e C2 h2
  | true =>
    rw [q] at e
    cases e
    have : z = y := by simpa using q
    subst this
    rw [h] at h2
    cases h2
    exact k
abbrev KitsT (K : PySem.W.Frag) (mg : Str → Option Value) (c : Value) (subs : List (Str × Bool)) : Prop := ∀ y b, subs.lookup y = some b → ∀ C, mg y = some (.ref C) → PySem.W.kitOne K (.ref C) c = some b
theorem kitsT_nil {c : Value} : KitsT K mg c [] := fun y b h => by cases h
theorem kitsT_cons {c : Value} {y : Str} {b : Bool} {C : Addr} {l : List (Str × Bool)} (h : mg y = some (.ref C)) (k : PySem.W.kitOne K (.ref C) c = some b) (r : KitsT K mg c l) : KitsT K mg c ((y, b) :: l) := fun z b2 e C2 h2 => by
  rw [List.lookup_cons] at e
  cases q : z == y with
  | false => rw [q] at e; exact r z b2 e C2 h2
  | true =>
    rw [q] at e
    cases e
    have : z = y := by simpa using q
    subst this
    rw [h] at h2
    cases h2
    exact k
abbrev XisT (K : PySem.W.Frag) (mg : Str → Option Value) (names : List Str) : Prop := ∀ y ∈ names, ∀ C, mg y = some (.ref C) → XiC K C ∧ PySem.W.findIn K (.ref C) "what" = some none
theorem xisT_nil : XisT K mg [] := fun y h => by cases h
theorem xisT_cons {y : Str} {C : Addr} {l : List Str} (h : mg y = some (.ref C)) (k : XiC K C ∧ PySem.W.findIn K (.ref C) "what" = some none) (r : XisT K mg l) : XisT K mg (y :: l) := fun z hz C2 h2 => by
  rcases List.mem_cons.mp hz with e | e
  · subst e
    rw [h] at h2
    cases h2
    exact k
  · exact r z e C2 h2
theorem lookup_in {y : Str} {b : Bool} : ∀ {l : List (Str × Bool)}, l.lookup y = some b → y ∈ l.map (·.1)
  | [], h => by cases h
  | (z, b2) :: l, h => by
    rw [List.lookup_cons] at h
    cases q : y == z with
    | true =>
      have : y = z := by simpa using q
      rw [this]
      exact List.mem_cons_self
    | false =>
      rw [q] at h
      exact List.mem_cons_of_mem _ (lookup_in h)
theorem exm_own {C D : Addr} {b : Bool} (h1 : PySem.W.subIn K (.ref D) (.type "BaseException") = some true) (h2 : PySem.W.isClsIn K D = true) (h3 : PySem.W.typeIn K (.ref D) = some (.type "type")) (h4 : PySem.W.subIn K (.ref C) (.ref D) = some b) : PySem.W.exmOne K (.ref C) (.ref D) = some b := by
  have e1 : (PySem.W.subIn K (.ref D) (.type "BaseException") == some true) = true := by rw [h1] <;> rfl
  have e2 : ((PySem.W.clsIn K D).isSome && PySem.W.typeIn K (.ref D) == some (.type "type")) = true := by
    have h2' : (PySem.W.clsIn K D).isSome = true := h2
    rw [h2', h3] <;> rfl
  show (if (PySem.W.subIn K (.ref D) (.type "BaseException") == some true) = true then (if ((PySem.W.clsIn K D).isSome && PySem.W.typeIn K (.ref D) == some (.type "type")) = true then PySem.W.subIn K (.ref C) (.ref D) else none) else none) = some b
  rw [if_pos e1, if_pos e2]
  exact h4
end
end DL

/-! DMR: denotations that end in an error, reckoned; try. -/
namespace DL
open PySem PySem.Spec PyProof.Rows L2 Evl

def SE (s : SDen) (e : Env) (P : Xn → Env → Prop) : Prop := ∃ m e' x, s e = some (.er m e' x) ∧ P x e'
def EE {α : Type} (d : Den α) (e : Env) (P : Xn → Env → Prop) : Prop := ∃ m e' x, d e = some (.err m e' x) ∧ P x e'
/-- a def, given what is frozen alone, raises -/
def FE (f : FDen) (ds : List D) (P : Xn → Prop) : Prop := ∃ m x, f (ds.map O.im) = some (.err m (ds.map O.im) x) ∧ P x
section
variable {α β : Type} {q : Bool} {e : Env} {P : Xn → Env → Prop} {a b : SDen} {B C : Env → Prop}
theorem se_raise {c : Str} {d : Den D} (h : EW false d e fun v e' => P (xn c v) e') : SE (sraise c d) e P := by
  obtain ⟨m, e', v, h1, _, h2⟩ := h
  refine ⟨m || false, e', xn c v, ?_, h2⟩
  unfold sraise sbind
  rw [h1]
  rfl
theorem se_seqL (h : SE a e P) : SE (sseq a b) e P := by
  obtain ⟨m, e', x, h1, h2⟩ := h
  refine ⟨m, e', x, ?_, h2⟩
  unfold sseq
  rw [h1]
theorem se_seqR (h : SW a e ⟨fun e' => SE b e' P, fun _ _ => False, fun _ => False, fun _ => False⟩) : SE (sseq a b) e P := by
  obtain ⟨r, hr, p⟩ := h
  cases r with
  | nx m e1 =>
    obtain ⟨m2, e', x, h1, h2⟩ : SE b e1 P := p
    refine ⟨m || m2, e', x, ?_, h2⟩
    unfold sseq
    rw [hr]
    show SRes.more m (b e1) = _
    rw [h1]
    rfl
  | _ => exact False.elim p
theorem se_bindL {d : Den α} {f : α → SDen} (h : EE d e P) : SE (sbind d f) e P := by
  obtain ⟨m, e', x, h1, h2⟩ := h
  refine ⟨m, e', x, ?_, h2⟩
  unfold sbind
  rw [h1]
theorem se_bindR {d : Den α} {f : α → SDen} (h : EW false d e fun v e' => SE (f v) e' P) : SE (sbind d f) e P := by
  obtain ⟨m, e1, v, h1, _, m2, e', x, h3, h4⟩ := h
  refine ⟨m || m2, e', x, ?_, h4⟩
  unfold sbind
  rw [h1]
  show SRes.more m (f v e1) = _
  rw [h3]
  rfl
theorem se_if {t : Den Bool} (h : EW false t e fun k e' => BR k (SE a e' P) (SE b e' P)) : SE (sif t a b) e P := by
  refine se_bindR (ew_imp h fun k e' z => ?_)
  cases k with
  | true => exact z.1 rfl
  | false => exact z.2 rfl
theorem se_set {i : Nat} {d : Den Rv} (h : EE d e P) : SE (sset i d) e P := se_bindL h
theorem se_rt {d : Den Rv} (h : EE d e P) : SE (srt d) e P := se_bindL h
theorem se_drop {d : Den Rv} (h : EE d e P) : SE (sdrop d) e P := se_bindL h
theorem ee_bindL {d : Den α} {f : α → Den β} (h : EE d e P) : EE (dbind d f) e P := by
  obtain ⟨m, e', x, h1, h2⟩ := h
  refine ⟨m, e', x, ?_, h2⟩
  unfold dbind
  rw [h1]
theorem ee_bindR {d : Den α} {f : α → Den β} (h : EW false d e fun v e' => EE (f v) e' P) : EE (dbind d f) e P := by
  obtain ⟨m, e1, v, h1, _, m2, e', x, h3, h4⟩ := h
  refine ⟨m || m2, e', x, ?_, h4⟩
  unfold dbind
  rw [h1]
  show Res.more m (f v e1) = _
  rw [h3]
  rfl
theorem ee_imR {d : Den D} (h : EE d e P) : EE (imR d) e P := ee_bindL h
theorem ee_frz {d : Den Rv} (h : EE d e P) : EE (frz d) e P := ee_bindL h
theorem ee_vw {d : Den Rv} (h : EE d e P) : EE (vw d) e P := ee_bindL h
theorem ee_ow {d : Den Rv} (h : EE d e P) : EE (ow d) e P := ee_bindL h
theorem ee_imD {d : Den O} (h : EE d e P) : EE (imD d) e P := ee_bindL h
theorem ee_dcons {d : Den D} {ds : Den (List D)} (h : EE d e P) : EE (dcons d ds) e P := ee_bindL h
theorem ee_dtup {ds : Den (List D)} (h : EE ds e P) : EE (dtup ds) e P := ee_bindL h
theorem ee_call {n : Nat} {f : FDen} {ds : List D} (hf : FE f ds fun x => P x e) (hn : ds.length = n) : EE (dfnA n f (ds.map AR.im)) e P := by
  obtain ⟨m, x, h1, h2⟩ := hf
  refine ⟨m && !allIm (ds.map O.im), e, x, ?_, h2⟩
  unfold dfnA
  rw [if_pos (by rw [List.length_map]; exact hn), lend_im ds e]
  dsimp only
  rw [h1]
  dsimp only
  rw [unlend_im ds e]
  rfl
theorem fe_of {n : Nat} {s : SDen} {ds : List D} {Px : Xn → Prop} (h : SE s (env0 (ds.map O.im) n) fun x e' => ds.length ≤ e'.length ∧ Px x) : FE (fnden n s) ds Px := by
  obtain ⟨m, e', x, h1, h2, h3⟩ := h
  refine ⟨m, x, ?_, h3⟩
  unfold fnden
  rw [h1]
  dsimp only
  rw [outs_im ds e' h2]
  rfl
theorem fe_imp {f : FDen} {ds : List D} {P Q : Xn → Prop} (h : FE f ds P) (k : ∀ x, P x → Q x) : FE f ds Q := by
  obtain ⟨m, x, h1, h2⟩ := h
  exact ⟨m, x, h1, k x h2⟩
/-- while: at most k turns are left, and one of them raises -/
theorem se_while {t : Den Bool} {b : SDen} (Iv : Nat → Env → Prop) (hs : ∀ k e', Iv k e' → EW false t e' fun c e2 => c = true ∧ (SE b e2 P ∨ ∃ j, j < k ∧ SW b e2 ⟨Iv j, fun _ _ => False, fun _ => False, Iv j⟩)) :
    ∀ (f k : Nat) (e : Env), k < f → Iv k e → SE (swhile t b f) e P
  | 0, k, e, hk, h => absurd hk (Nat.not_lt_zero _)
  | f + 1, k, e, hk, h => by
    unfold swhile
    refine se_bindR (ew_imp (hs k e h) fun c e2 h2 => ?_)
    obtain ⟨rfl, h2⟩ := h2
    rcases h2 with ⟨m, e', x, h3, h4⟩ | ⟨j, hj, r, hr, p⟩
    · refine ⟨m, e', x, ?_, h4⟩
      show sturn (b e2) (swhile t b f) = _
      rw [h3]
      rfl
    · have ih : ∀ e3, Iv j e3 → SE (swhile t b f) e3 P := fun e3 h3 => se_while Iv hs f j e3 (by omega) h3
      have fin : ∀ m e3, Iv j e3 → b e2 = some (.nx m e3) ∨ b e2 = some (.ct m e3) → ∃ m e' x, sturn (b e2) (swhile t b f) = some (.er m e' x) ∧ P x e' := fun m e3 h3 hb => by
        obtain ⟨m2, e', x, h5, h6⟩ := ih e3 h3
        refine ⟨m || m2, e', x, ?_, h6⟩
        rcases hb with hb | hb <;>
        · rw [hb]
          show SRes.more m (swhile t b f e3) = _
          rw [h5]
          rfl
      show ∃ m e' x, sturn (b e2) (swhile t b f) = some (.er m e' x) ∧ P x e'
      cases r with
      | nx m e3 => exact fin m e3 p (.inl hr)
      | ct m e3 => exact fin m e3 p (.inr hr)
      | _ => exact False.elim p
/-- a loop whose turn raises: behind the first items -/
theorem se_loop {bind : D → Env → Option Env} {body : SDen} (Iv : Nat → Env → Prop) : ∀ {ds : List D} {e : Env} (k n : Nat), Iv k e → n < ds.length → (∀ i d e', i < n → ds[i]? = some d → Iv (k + i) e' → OP (bind d e') fun e2 => SW body e2 ⟨Iv (k + i + 1), fun _ _ => False, fun _ => False, Iv (k + i + 1)⟩) →
    (∀ d e', ds[n]? = some d → Iv (k + n) e' → OP (bind d e') fun e2 => SE body e2 P) → SE (sloop bind body ds) e P
  | [], e, k, n, h0, hn, hs, hx => by simp at hn
  | d :: ds, e, k, 0, h0, hn, hs, hx => by
    obtain ⟨e2, hb, m, e', x, h1, h2⟩ := hx d e rfl h0
    refine ⟨m, e', x, ?_, h2⟩
    unfold sloop
    rw [hb]
    show sturn (body e2) _ = _
    rw [h1]
    rfl
  | d :: ds, e, k, n + 1, h0, hn, hs, hx => by
    obtain ⟨e2, hb, r, hr, p⟩ := hs 0 d e (Nat.succ_pos _) rfl h0
    have ih : ∀ e3, Iv (k + 1) e3 → SE (sloop bind body ds) e3 P := fun e3 h3 => se_loop Iv (k + 1) n h3 (by simpa using hn) (fun i d e' hi hd h => by
      have z := hs (i + 1) d e' (by omega) (by simpa using hd) (by rw [show k + (i + 1) = k + 1 + i by omega]; exact h)
      rw [show k + (i + 1) + 1 = k + 1 + i + 1 by omega] at z
      exact z) (fun d e' hd h => hx d e' (by simpa using hd) (by rw [show k + (n + 1) = k + 1 + n by omega]; exact h))
    have fin : ∀ m e3, Iv (k + 1) e3 → body e2 = some (.nx m e3) ∨ body e2 = some (.ct m e3) → SE (sloop bind body (d :: ds)) e P := fun m e3 h3 hb2 => by
      obtain ⟨m2, e', x, h5, h6⟩ := ih e3 h3
      refine ⟨m || m2, e', x, ?_, h6⟩
      unfold sloop
      rw [hb]
      show sturn (body e2) _ = _
      rcases hb2 with hb2 | hb2 <;>
      · rw [hb2]
        show SRes.more m (sloop bind body ds e3) = _
        rw [h5]
        rfl
    cases r with
    | nx m e3 => exact fin m e3 p (.inl hr)
    | ct m e3 => exact fin m e3 p (.inr hr)
    | _ => exact False.elim p

/-! ### try -/
variable {A : Aft}
theorem w_try {s : SDen} {hs : List Hand} (h : SW s e A) : SW (stry s hs) e A := by
  obtain ⟨r, hr, p⟩ := h
  refine ⟨r, ?_, p⟩
  unfold stry
  rw [hr]
  cases r <;> first | rfl | exact False.elim p
def SC (x : Xn) (e : Env) (hs : List Hand) (A : Aft) : Prop := ∀ m, ∃ r, scatch x e m hs = some r ∧ SP' A r
theorem w_tryX {s : SDen} {hs : List Hand} (h : SE s e fun x e' => SC x e' hs A) : SW (stry s hs) e A := by
  obtain ⟨m, e', x, h1, h2⟩ := h
  obtain ⟨r, h3, h4⟩ := h2 m
  refine ⟨r, ?_, h4⟩
  unfold stry
  rw [h1]
  exact h3
theorem sc_skip {x : Xn} {h : Hand} {hs : List Hand} (hl : h.subs.lookup x.cls = some false) (k : SC x e hs A) : SC x e (h :: hs) A := fun m => by
  obtain ⟨r, h1, h2⟩ := k m
  refine ⟨r, ?_, h2⟩
  unfold scatch
  rw [hl]
  exact h1
theorem sc_hit {x : Xn} {subs : List (Str × Bool)} {s : Addr → Addr → Str → SDen} {hs : List Hand} (hl : subs.lookup x.cls = some true) (hu : ∀ a dd, (s a dd x.cls e).bind (clr none) = (s 0 0 x.cls e).bind (clr none)) (k : SW (s 0 0 x.cls) e A) : SC x e (⟨subs, none, s⟩ :: hs) A := fun m => by
  obtain ⟨r, h1, h2⟩ := k
  have hc : clr none r = some r := by
    cases r with
    | er m e x => exact False.elim h2
    | rt m e rv => cases rv <;> rfl
    | _ => rfl
  obtain ⟨r2, h3, h4⟩ := SP'.more (m := m) h2
  refine ⟨r2, ?_, h4⟩
  unfold scatch
  rw [show (Hand.mk subs none s).subs.lookup x.cls = some true from hl]
  show SRes.more m (uni fun a dd => (s a dd x.cls e).bind (clr none)) = some r2
  rw [uni_of hu, h1]
  show SRes.more m (clr none r) = _
  rw [hc]
  exact h3
/-- what a named clause's suite must leave -/
def clrP (i : Nat) (A : Aft) : Aft where
  N e := e.free i = true ∧ A.N (e.set i none)
  R r e := e.free i = true ∧ A.R r (e.set i none) ∧ ∀ o, r ≠ .bor i o
  B e := e.free i = true ∧ A.B (e.set i none)
  C e := e.free i = true ∧ A.C (e.set i none)
theorem clr_p {i : Nat} {r : SRes} (h : SP' (clrP i A) r) : ∃ r2, clr (some i) r = some r2 ∧ SP' A r2 := by
  have ce : ∀ e : Env, e.free i = true → clrE (some i) e = some (e.set i none) := fun e z => if_pos z
  cases r with
  | nx m e => exact ⟨.nx m (e.set i none), by show (clrE (some i) e).map _ = _; rw [ce e h.1]; rfl, h.2⟩
  | bk m e => exact ⟨.bk m (e.set i none), by show (clrE (some i) e).map _ = _; rw [ce e h.1]; rfl, h.2⟩
  | ct m e => exact ⟨.ct m (e.set i none), by show (clrE (some i) e).map _ = _; rw [ce e h.1]; rfl, h.2⟩
  | er m e x => exact False.elim h
  | rt m e rv =>
    obtain ⟨h1, h2, h3⟩ := h
    refine ⟨.rt m (e.set i none) rv, ?_, h2⟩
    cases rv with
    | im d => show (clrE (some i) e).map _ = _; rw [ce e h1]; rfl
    | new o => show (clrE (some i) e).map _ = _; rw [ce e h1]; rfl
    | bor j o =>
      show (if some i = some j then none else (clrE (some i) e).map fun e => SRes.rt m e (.bor j o)) = _
      rw [if_neg (fun z => h3 o (by cases z; rfl)), ce e h1]
      rfl
theorem sc_hitAs {x : Xn} {subs : List (Str × Bool)} {i : Nat} {s : Addr → Addr → Str → SDen} {hs : List Hand} (hl : subs.lookup x.cls = some true) (hf : e.free i = true) (hx : x.fs.isEmpty = false)
    (hu : ∀ a dd, (s a dd x.cls (e.set i (excSlot x a dd))).bind (clr (some i)) = (s 0 0 x.cls (e.set i (excSlot x 0 0))).bind (clr (some i))) (k : SW (s 0 0 x.cls) (e.set i (excSlot x 0 0)) (clrP i A)) : SC x e (⟨subs, some i, s⟩ :: hs) A := fun m => by
  obtain ⟨r, h1, h2⟩ := k
  obtain ⟨r1, hc, h5⟩ := clr_p h2
  obtain ⟨r2, h3, h4⟩ := SP'.more (m := m) h5
  refine ⟨r2, ?_, h4⟩
  unfold scatch
  rw [show (Hand.mk subs (some i) s).subs.lookup x.cls = some true from hl]
  show SRes.more m (if e.free i = true ∧ x.fs.isEmpty = false then uni (fun a dd => (s a dd x.cls (e.set i (excSlot x a dd))).bind (clr (some i))) else none) = some r2
  rw [if_pos ⟨hf, hx⟩, uni_of hu, h1]
  show SRes.more m (clr (some i) r) = _
  rw [hc]
  exact h3
theorem w_hitAs {x : Xn} {subs : List (Str × Bool)} {i : Nat} {s : Addr → Addr → Str → SDen} {hs : List Hand} {N : Env → Prop} {R : Rv → Env → Prop} {B C : Env → Prop} (hl : subs.lookup x.cls = some true) (hf : e.free i = true) (hx : x.fs.isEmpty = false)
    (hu : ∀ a dd, (s a dd x.cls (e.set i (excSlot x a dd))).bind (clr (some i)) = (s 0 0 x.cls (e.set i (excSlot x 0 0))).bind (clr (some i)))
    (k : SW (s 0 0 x.cls) (e.set i (excSlot x 0 0)) ⟨fun e => e.free i = true ∧ N (e.set i none), fun r e => e.free i = true ∧ R r (e.set i none) ∧ ∀ o, r ≠ .bor i o, fun e => e.free i = true ∧ B (e.set i none), fun e => e.free i = true ∧ C (e.set i none)⟩) : SC x e (⟨subs, some i, s⟩ :: hs) ⟨N, R, B, C⟩ := sc_hitAs (A := ⟨N, R, B, C⟩) hl hf hx hu k
theorem w_hit {x : Xn} {subs : List (Str × Bool)} {s : Addr → Addr → Str → SDen} {hs : List Hand} {N : Env → Prop} {R : Rv → Env → Prop} {B C : Env → Prop} (hl : subs.lookup x.cls = some true) (hu : ∀ a dd, (s a dd x.cls e).bind (clr none) = (s 0 0 x.cls e).bind (clr none)) (k : SW (s 0 0 x.cls) e ⟨N, R, B, C⟩) : SC x e (⟨subs, none, s⟩ :: hs) ⟨N, R, B, C⟩ := sc_hit hl hu k
theorem w_xf {c : Str} {a dd : Addr} {ns : List Str} {ds : List D} {i : Nat} {f : Str} {b : Bool} {d : D} {PD : D → Env → Prop} (h : lk e i = some (b, .im (.exc c a dd ns ds))) (hl : (ns.zip ds).lookup f = some d) (p : PD d e) : EW q (dxf a dd i f) e PD := by
  refine ⟨false, e, d, ?_, fun _ => rfl, p⟩
  unfold dxf
  have h' : e[i]? = some (some (b, .im (.exc c a dd ns ds))) := by
    unfold lk at h
    cases z : e[i]? with
    | none => rw [z] at h; cases h
    | some y => rw [z] at h; exact congrArg some h
  rw [h']
  dsimp only
  rw [if_pos ⟨rfl, rfl⟩, hl]
  rfl
theorem w_xi {c : Str} {a dd : Addr} {ns : List Str} {ds : List D} {i : Nat} {b k : Bool} {o : Option Bool} {PD : D → Env → Prop} (h : lk e i = some (b, .im (.exc c a dd ns ds))) (hl : o = some k) (p : PD (.bl k) e) : EW q (dxi a dd i o) e PD := by
  refine ⟨false, e, .bl k, ?_, fun _ => rfl, p⟩
  unfold dxi
  have h' : e[i]? = some (some (b, .im (.exc c a dd ns ds))) := by
    unfold lk at h
    cases z : e[i]? with
    | none => rw [z] at h; cases h
    | some y => rw [z] at h; exact congrArg some h
  rw [h']
  dsimp only
  rw [if_pos ⟨rfl, rfl⟩, hl]
  rfl
end
end DL

/-! DMS: x.insert(k, y). -/
namespace DL
open PySem PySem.Spec PyProof.Rows L2 Evl
/-- an owned list's object takes new items; what it owns is no more than before -/
theorem RE.relist {K : KB} {c : Ctx} {F H : Hp} {σ : L2.St} {e : Env} {ts : List (V × O)} {os os' : List O} {l : Addr} {xs xs' : List V} (R : RE K c F H σ e ((.ref l, .lst os) :: ts)) (hl : H l = some (.lst xs))
    (k : ∀ (H' : Hp) (r : List Addr), Owns K F H' os xs r → ∃ r', r'.Sublist r ∧ Owns K F H' os' xs' r') : RE K c F (upd H l (.lst xs')) σ e ((.ref l, .lst os') :: ts) := by
  obtain ⟨hs, fs, h1, h2, h3, h4⟩ := R.hd
  obtain ⟨f1, f2, e1, h5, h7⟩ := h2
  obtain ⟨l2, xs2, r, el, e3, hl2, hos⟩ := h5
  cases el
  rw [hl] at hl2
  cases hl2
  subst e3
  subst e1
  obtain ⟨q1, q2, q3⟩ := List.nodup_append.mp h3
  obtain ⟨q4, q5⟩ := List.nodup_cons.mp q1
  have lf : F l = none ∧ c.G l = none := h4 l (List.mem_append_left _ List.mem_cons_self)
  have kp : ∀ p, p ≠ l → ∀ u, H p = some u → upd H l (.lst xs') p = some u := fun p hp u z => by rw [upd_ne hp]; exact z
  have nl : ∀ p, p ∈ r ∨ p ∈ f2 → p ≠ l := fun p hp z => by
    subst z
    rcases hp with hp | hp
    · exact q4 hp
    · exact q3 p List.mem_cons_self p hp rfl
  obtain ⟨r', hsub, hos'⟩ := k (upd H l (.lst xs')) r (Owns.mono (Ex.refl _) _ _ _ (fun p hp => kp p (nl p (.inl hp))) hos)
  have sub2 : (l :: r' ++ f2).Sublist (l :: r ++ f2) := List.Sublist.append_right (List.Sublist.cons_cons l hsub) f2
  refine ⟨fun p u z => ?_, R.f0, fun p u z => ?_, R.nw, hs, l :: r' ++ f2, h1, ⟨l :: r', f2, rfl, ⟨l, xs', r', rfl, rfl, upd_same, hos'⟩, Held.mono (Ex.refl _) (fun p hp => kp p (nl p (.inr hp))) h7⟩, h3.sublist sub2, fun p hp => h4 p (sub2.subset hp)⟩
  · have hp : p ≠ l := fun w => by
      subst w
      rw [lf.2] at z
      cases z
    exact kp p hp u (R.g p u z)
  · have hp : p ≠ l := fun w => by
      subst w
      rw [lf.1] at z
      cases z
    exact kp p hp u (R.fh p u z)
theorem owns_ins {K : KB} {F H : Hp} {d : D} {y : V} (hd : Rep K F d y) : ∀ (k : Nat) {os : List O} {xs : List V} {r : List Addr}, Owns K F H os xs r → Owns K F H (os.take k ++ [.im d] ++ os.drop k) (xs.take k ++ [y] ++ xs.drop k) r
  | 0, os, xs, r, h => ⟨y, xs, [], r, rfl, rfl, ⟨rfl, hd⟩, h⟩
  | k + 1, [], xs, r, h => by
    rw [h.1, h.2]
    exact ⟨y, [], [], [], rfl, rfl, ⟨rfl, hd⟩, rfl, rfl⟩
  | k + 1, o :: os, xs, r, h => by
    obtain ⟨x, xr, f1, f2, rfl, rfl, h1, h2⟩ := h
    exact ⟨x, _, f1, f2, rfl, rfl, h1, owns_ins hd k h2⟩
def sins (i : Nat) (da : Den (List D)) : SDen := fun e0 => match e0[i]? with
  | some (some (_, .lst _)) => sbind da (fun ds e => match ds with
    | [.int k, d] => (match e[i]? with
      | some (some (b, .lst os)) => if os.length < sizeLine ∧ 0 ≤ k ∧ k < 2 ^ 63 then some (.nx true (e.set i (some (b, .lst (os.take k.toNat ++ [.im d] ++ os.drop k.toNat))))) else none
      | _ => none)
    | _ => none) e0
  | _ => none
section
variable {X : Cx} {W : WX} {a b : Expr} {pos p : Pos}
theorem ds_ins {i : Nat} {x : Str} {da : Den (List D)} {apos px : Pos} (hx : PE X (.Name x px) (tVar i)) (h : DA X W [a, b] da)
    (hs : swapsWith (.Call (.Attribute (.Name x px) "insert" apos) [a, b] [] p) none pos.line X.env = pure false := by rfl)
    (hpe : ∀ {t : TA}, PA X [a, b] t → PE X (.Call (.Attribute (.Name x px) "insert" apos) [a, b] [] p) (tBM X.B "list" (fun x vs H Q => ∃ (l : Addr) (xs : List V) (i : Int) (y : V), x = .ref l ∧ vs = [.int i, y] ∧ H l = some (.lst xs) ∧ xs.length < sizeLine ∧ 0 ≤ i ∧ i < 2 ^ 63 ∧
      Q .non (upd H l (.lst (xs.take i.toNat ++ [y] ++ xs.drop i.toNat)))) (tVar i) t)) :
    DS X W (.Expr (.Call (.Attribute (.Name x px) "insert" apos) [a, b] [] p) pos) (sins i da) :=
  ⟨ps_weak (ps_expr (hpe h.run) hs) fun D0 σ H q => by
    obtain ⟨c, F, e, ts, R, r, hr, post⟩ := q
    unfold sins at hr
    cases he : e[i]? with
    | none => rw [he] at hr; cases hr
    | some s =>
      rw [he] at hr
      cases s with
      | none => cases hr
      | some s =>
        obtain ⟨b, o⟩ := s
        cases o with
        | lst os =>
          obtain ⟨v, fs, hv, l, xs, rr, ev, _, hl, _⟩ := R.slot he
          subst ev
          refine ⟨.ref l, hv, .inl ⟨rfl, xs, SqL.of hl⟩, c, F, e, ts, R, ?_⟩
          have q0 : AtS X.B W (sbind da fun ds e => match ds with
            | [.int k, d] => (match e[i]? with
              | some (some (b, .lst os)) => if os.length < sizeLine ∧ 0 ≤ k ∧ k < 2 ^ 63 then some (.nx true (e.set i (some (b, .lst (os.take k.toNat ++ [.im d] ++ os.drop k.toNat))))) else none
              | _ => none)
            | _ => none) D0 c F σ e ts H := ⟨r, hr, post⟩
          refine q0.sbind (rel := relA) fun F1 H1 e1 ds vs ef hr1 q1 => ?_
          obtain ⟨r1, hr2, post1⟩ := q1
          obtain ⟨R1, hrep⟩ := hr1
          dsimp only at hr2
          split at hr2
          · rename_i k d
            cases he1 : e1[i]? with
            | none => rw [he1] at hr2; cases hr2
            | some s =>
              rw [he1] at hr2
              cases s with
              | none => cases hr2
              | some s =>
                obtain ⟨b1, o1⟩ := s
                cases o1 with
                | lst os1 =>
                  dsimp only at hr2
                  split at hr2
                  · rename_i hz
                    cases hr2
                    obtain ⟨v1, fs1, hv1, l1, xs1, rr1, ev1, _, hl1, ho1⟩ := R1.slot he1
                    rw [hv] at hv1
                    cases hv1
                    cases ev1
                    obtain ⟨vl, hvl, hb1, R2⟩ := R1.out he1
                    rw [hv] at hvl
                    cases hvl
                    obtain ⟨_, _, rfl, hk, y, _, rfl, hy, hnil⟩ := hrep
                    cases hnil
                    cases hk
                    have R3 := R2.relist hl1 (os' := os1.take k.toNat ++ [.im d] ++ os1.drop k.toNat) (xs' := xs1.take k.toNat ++ [y] ++ xs1.drop k.toNat) fun H' r h => ⟨r, List.Sublist.refl _, owns_ins hy k.toNat h⟩
                    refine ⟨l, xs1, k, y, rfl, rfl, hl1, ?_, hz.2.1, hz.2.2, ?_⟩
                    · rw [← ho1.length]
                      exact hz.1
                    · have hn : (e1.set i none)[i]? = some none := List.getElem?_set_self (List.getElem?_eq_some_iff.mp he1).1
                      have R4 := R3.inn (b := b1) hn hv hb1
                      rw [List.set_set] at R4
                      exact post1 F1 _ σ (Ex.refl _) (fun z => by cases z) R4
                  · cases hr2
                | _ => cases hr2
          · cases hr2
        | _ => cases hr⟩
end
section
variable {e : Env} {N : Env → Prop} {R : Rv → Env → Prop} {B C : Env → Prop}
theorem w_ins {i : Nat} {da : Den (List D)} (h0 : ∃ b os, lk e i = some (b, .lst os)) (p : EW false da e fun ds e1 => ∃ b os k d, ds = [.int k, d] ∧ lk e1 i = some (b, .lst os) ∧ (os.length < sizeLine ∧ 0 ≤ k ∧ k < 2 ^ 63) ∧ N (e1.set i (some (b, .lst (os.take k.toNat ++ [.im d] ++ os.drop k.toNat))))) : SW (sins i da) e ⟨N, R, B, C⟩ := by
  obtain ⟨b0, os0, h0⟩ := h0
  obtain ⟨m, e1, ds, k1, k2, b, os, k, d, rfl, h1, hz, hN⟩ := p
  unfold SW sins
  rw [lk_some h0]
  dsimp only
  unfold sbind
  rw [k1]
  dsimp only
  rw [lk_some h1]
  dsimp only
  rw [if_pos hz]
  exact ⟨_, rfl, hN⟩
end
end DL

/-! DMT: a suite ends alike wherever its error lies. -/
namespace DL
open PySem PySem.Spec PyProof.Rows L2 Evl
def Res.mapE {α : Type} (h : Env → Env) : Res α → Res α
  | .ok m e a => .ok m (h e) a
  | .err m e x => .err m (h e) x
def Res.envOf {α : Type} : Res α → Env
  | .ok _ e _ => e
  | .err _ e _ => e
def SRes.mapE (h : Env → Env) : SRes → SRes
  | .nx m e => .nx m (h e)
  | .rt m e r => .rt m (h e) r
  | .bk m e => .bk m (h e)
  | .ct m e => .ct m (h e)
  | .er m e x => .er m (h e) x
def SRes.envOf : SRes → Env
  | .nx _ e => e
  | .rt _ e _ => e
  | .bk _ e => e
  | .ct _ e => e
  | .er _ e _ => e
section
variable {α β : Type} {i : Nat} {x : Xn}
/-- the error's slot is read by what asks for it alone -/
def UD (i : Nat) (x : Xn) (f : Addr → Addr → Den α) : Prop := ∀ e : Env, Env.free e i = true → ∃ g : Option (Res α), (∀ r, g = some r → Env.free r.envOf i = true) ∧ ∀ a dd, f a dd (e.set i (excSlot x a dd)) = g.map (Res.mapE fun e' => e'.set i (excSlot x a dd))
def US (i : Nat) (x : Xn) (f : Addr → Addr → SDen) : Prop := ∀ e : Env, Env.free e i = true → ∃ g : Option SRes, (∀ r, g = some r → Env.free r.envOf i = true) ∧ ∀ a dd, f a dd (e.set i (excSlot x a dd)) = g.map (SRes.mapE fun e' => e'.set i (excSlot x a dd))
theorem free_lt {e : Env} (h : Env.free e i = true) : i < e.length := by
  unfold Env.free at h
  by_cases z : i < e.length
  · exact z
  · rw [List.getElem?_eq_none (by omega)] at h; cases h
theorem free_set {e : Env} {j : Nat} {s : Slot} (h : Env.free e i = true) (hj : j ≠ i) : Env.free (e.set j s) i = true := by
  unfold Env.free at h ⊢
  rw [List.getElem?_set_ne hj]
  exact h
theorem ud_pure {v : α} : UD i x (fun _ _ => dpure v) := fun e he => ⟨some (.ok false e v), fun r z => by cases z; exact he, fun a dd => rfl⟩
theorem ud_lift {o : Option α} : UD i x (fun _ _ => dlift o) := fun e he => by
  cases o with
  | none => exact ⟨none, fun r z => (by cases z), fun a dd => rfl⟩
  | some v => exact ⟨some (.ok false e v), fun r z => by cases z; exact he, fun a dd => rfl⟩
theorem more_map {m : Bool} {h : Env → Env} {g : Option (Res β)} : Res.more (α := α) m (g.map (Res.mapE h)) = (Res.more (α := α) m g).map (Res.mapE h) := by
  cases g with
  | none => rfl
  | some r => cases r <;> rfl
theorem ud_bind {f : Addr → Addr → Den α} {k : Addr → Addr → α → Den β} (h : UD i x f) (h2 : ∀ v, UD i x fun a dd => k a dd v) : UD i x (fun a dd => dbind (f a dd) (k a dd)) := fun e he => by
  obtain ⟨g, g1, g2⟩ := h e he
  cases g with
  | none => exact ⟨none, fun r z => (by cases z), fun a dd => by dsimp only [dbind]; rw [g2]; rfl⟩
  | some r =>
    cases r with
    | err m e1 z => exact ⟨some (.err m e1 z), fun r q => by cases q; exact g1 _ rfl, fun a dd => by dsimp only [dbind]; rw [g2]; rfl⟩
    | ok m e1 v =>
      obtain ⟨g', k1, k2⟩ := h2 v e1 (g1 _ rfl)
      dsimp only at k2
      refine ⟨Res.more (α := α) m g', fun r q => ?_, fun a dd => ?_⟩
      · cases g' with
        | none => cases q
        | some r' => cases r' <;> (cases q; have z := k1 _ rfl; exact z)
      · dsimp only [dbind]
        rw [g2]
        show Res.more m (k a dd v (e1.set i (excSlot x a dd))) = _
        rw [k2, more_map]
theorem ud_dq {f : Addr → Addr → Den α} (h : UD i x f) : UD i x (fun a dd => dq (f a dd)) := fun e he => by
  obtain ⟨g, g1, g2⟩ := h e he
  cases g with
  | none => exact ⟨none, fun r z => (by cases z), fun a dd => by dsimp only [dq]; rw [g2]; rfl⟩
  | some r =>
    cases r with
    | err m e1 z => exact ⟨some (.err m e1 z), fun r q => by cases q; exact g1 _ rfl, fun a dd => by dsimp only [dq]; rw [g2]; rfl⟩
    | ok m e1 v =>
      cases m with
      | false => exact ⟨some (.ok false e1 v), fun r q => by cases q; exact g1 _ rfl, fun a dd => by dsimp only [dq]; rw [g2]; rfl⟩
      | true => exact ⟨none, fun r z => (by cases z), fun a dd => by dsimp only [dq]; rw [g2]; rfl⟩
theorem ud_var {j : Nat} (hj : j ≠ i) : UD i x (fun _ _ => dvar j) := fun e he => by
  have key : ∀ a dd, (e.set i (excSlot x a dd))[j]? = e[j]? := fun a dd => List.getElem?_set_ne (Ne.symm hj)
  have pick : ∀ a dd, dvar j (e.set i (excSlot x a dd)) = (dvar j e).map (Res.mapE fun e' => e'.set i (excSlot x a dd)) := fun a dd => by
    unfold dvar
    rw [key]
    cases e[j]? with
    | none => rfl
    | some s =>
      cases s with
      | none => rfl
      | some q =>
        obtain ⟨b, o⟩ := q
        cases o <;> rfl
  refine ⟨dvar j e, fun r z => ?_, pick⟩
  unfold dvar at z
  cases h : e[j]? with
  | none => rw [h] at z; cases z
  | some s =>
    rw [h] at z
    cases s with
    | none => cases z
    | some q =>
      obtain ⟨b, o⟩ := q
      cases o <;> (cases z; exact he)
theorem ud_xf {f : Str} : UD i x (fun a dd => dxf a dd i f) := fun e he => by
  refine ⟨(((x.fs.map (·.1)).zip (x.fs.map (·.2))).lookup f).map fun d => .ok false e d, fun r z => ?_, fun a dd => ?_⟩
  · obtain ⟨d, _, rfl⟩ := Option.map_eq_some_iff.mp z
    exact he
  · dsimp only [dxf]
    rw [List.getElem?_set_self (free_lt he)]
    dsimp only [excSlot]
    rw [if_pos ⟨rfl, rfl⟩, Option.map_map]
    rfl
theorem ud_xi {b : Option Bool} : UD i x (fun a dd => dxi a dd i b) := fun e he => by
  refine ⟨b.map fun b => .ok false e (.bl b), fun r z => ?_, fun a dd => ?_⟩
  · obtain ⟨d, _, rfl⟩ := Option.map_eq_some_iff.mp z
    exact he
  · dsimp only [dxi]
    rw [List.getElem?_set_self (free_lt he)]
    dsimp only [excSlot]
    rw [if_pos ⟨rfl, rfl⟩, Option.map_map]
    rfl
theorem ud_ite {c : Prop} [Decidable c] {f g : Addr → Addr → Den α} (h : UD i x f) (k : UD i x g) : UD i x (fun a dd => if c then f a dd else g a dd) := by
  by_cases hc : c
  · simp only [if_pos hc]; exact h
  · simp only [if_neg hc]; exact k
theorem ud_imR {f : Addr → Addr → Den D} (h : UD i x f) : UD i x (fun a dd => imR (f a dd)) := ud_bind h fun v => ud_pure
theorem ud_vw {f : Addr → Addr → Den Rv} (h : UD i x f) : UD i x (fun a dd => vw (f a dd)) := ud_bind h fun v => by cases v <;> exact ud_pure
/-- frozen, of a slot that holds what is frozen or is another one -/
theorem ud_frz {j : Nat} (hj : j ≠ i) : UD i x (fun _ _ => frz (dvar j)) := fun e he => by
  have key : ∀ a dd, (e.set i (excSlot x a dd))[j]? = e[j]? := fun a dd => List.getElem?_set_ne (Ne.symm hj)
  have pick : ∀ a dd, frz (dvar j) (e.set i (excSlot x a dd)) = (frz (dvar j) e).map (Res.mapE fun e' => e'.set i (excSlot x a dd)) := fun a dd => by
    unfold frz dbind dvar
    rw [key]
    cases h : e[j]? with
    | none => rfl
    | some s =>
      cases s with
      | none => rfl
      | some q =>
        obtain ⟨b, o⟩ := q
        cases o with
        | im d => rfl
        | _ =>
          dsimp only [Res.more]
          rw [key, h]
          dsimp only [Res.more, Option.map_some, Res.mapE]
          rw [List.set_comm _ _ (Ne.symm hj)]
  refine ⟨frz (dvar j) e, fun r z => ?_, pick⟩
  unfold frz dbind dvar at z
  cases h : e[j]? with
  | none => rw [h] at z; cases z
  | some s =>
    rw [h] at z
    cases s with
    | none => cases z
    | some q =>
      obtain ⟨b, o⟩ := q
      cases o with
      | im d => cases z; exact he
      | _ =>
        dsimp only [Res.more] at z
        rw [h] at z
        cases z
        exact free_set he hj
theorem ud_dcons {f : Addr → Addr → Den D} {g : Addr → Addr → Den (List D)} (h : UD i x f) (k : UD i x g) : UD i x (fun a dd => dcons (f a dd) (g a dd)) := ud_bind h fun v => ud_bind k fun vs => ud_pure
theorem ud_dconsV {f : Addr → Addr → Den D} {g : Addr → Addr → Den (List D)} (h : UD i x f) (k : UD i x g) : UD i x (fun a dd => dconsV (f a dd) (g a dd)) := ud_bind h fun v => ud_bind (ud_dq k) fun vs => ud_pure
theorem ud_dtup {f : Addr → Addr → Den (List D)} (h : UD i x f) : UD i x (fun a dd => dtup (f a dd)) := ud_bind h fun v => ud_lift
theorem ud_dlst {f : Addr → Addr → Den (List D)} (h : UD i x f) : UD i x (fun a dd => dlst (f a dd)) := ud_bind h fun v => ud_lift
theorem ud_dbin {f g : Addr → Addr → Den D} {o : D → D → Option D} (h : UD i x f) (k : UD i x g) : UD i x (fun a dd => dbin (f a dd) (g a dd) o) := ud_bind h fun v => ud_bind k fun vs => ud_lift
theorem ud_dcmp {f g : Addr → Addr → Den D} {o : D → D → Option Bool} (h : UD i x f) (k : UD i x g) : UD i x (fun a dd => dcmp (f a dd) (g a dd) o) := ud_bind h fun v => ud_bind (ud_dq k) fun vs => ud_lift
theorem ud_dtB {f : Addr → Addr → Den D} (h : UD i x f) : UD i x (fun a dd => dtB (f a dd)) := ud_bind h fun v => ud_lift
theorem ud_dtru {f : Addr → Addr → Den D} (h : UD i x f) : UD i x (fun a dd => dtru (f a dd)) := ud_bind h fun v => ud_lift
theorem ud_dnot {f : Addr → Addr → Den Bool} (h : UD i x f) : UD i x (fun a dd => dnot (f a dd)) := ud_bind h fun v => ud_pure
theorem ud_dand {f g : Addr → Addr → Den Bool} (h : UD i x f) (k : UD i x g) : UD i x (fun a dd => dand (f a dd) (g a dd)) := ud_bind h fun v => ud_ite k ud_pure
theorem ud_dor {f g : Addr → Addr → Den Bool} (h : UD i x f) (k : UD i x g) : UD i x (fun a dd => dor (f a dd) (g a dd)) := ud_bind h fun v => ud_ite ud_pure k
theorem ud_dnotV {f : Addr → Addr → Den D} (h : UD i x f) : UD i x (fun a dd => dnotV (f a dd)) := ud_bind (ud_dtB h) fun v => ud_pure
theorem ud_dandV {f g : Addr → Addr → Den D} (h : UD i x f) (k : UD i x g) : UD i x (fun a dd => dandV (f a dd) (g a dd)) := ud_bind (ud_dtB h) fun v => ud_ite k ud_pure
theorem ud_dorV {f g : Addr → Addr → Den D} (h : UD i x f) (k : UD i x g) : UD i x (fun a dd => dorV (f a dd) (g a dd)) := ud_bind (ud_dtB h) fun v => ud_ite ud_pure k
theorem ud_dif {t : Addr → Addr → Den Bool} {f g : Addr → Addr → Den α} (ht : UD i x t) (h : UD i x f) (k : UD i x g) : UD i x (fun a dd => dif (t a dd) (f a dd) (g a dd)) := ud_bind ht fun v => ud_ite h k
/-! statements -/
theorem smore_map {m : Bool} {h : Env → Env} {g : Option SRes} : SRes.more m (g.map (SRes.mapE h)) = (SRes.more m g).map (SRes.mapE h) := by
  cases g with
  | none => rfl
  | some r => cases r <;> rfl
theorem smore_env {m : Bool} {g : Option SRes} {r : SRes} (h : SRes.more m g = some r) (k : ∀ r, g = some r → Env.free r.envOf i = true) : Env.free r.envOf i = true := by
  cases g with
  | none => cases h
  | some q => cases q <;> (cases h; have z := k _ rfl; exact z)
theorem us_next : US i x (fun _ _ => snext) := fun e he => ⟨some (.nx false e), fun r z => by cases z; exact he, fun a dd => rfl⟩
theorem us_bind {f : Addr → Addr → Den α} {k : Addr → Addr → α → SDen} (h : UD i x f) (h2 : ∀ v, US i x fun a dd => k a dd v) : US i x (fun a dd => sbind (f a dd) (k a dd)) := fun e he => by
  obtain ⟨g, g1, g2⟩ := h e he
  cases g with
  | none => exact ⟨none, fun r z => (by cases z), fun a dd => by dsimp only [sbind]; rw [g2]; rfl⟩
  | some r =>
    cases r with
    | err m e1 z => exact ⟨some (.er m e1 z), fun r q => by cases q; exact g1 _ rfl, fun a dd => by dsimp only [sbind]; rw [g2]; rfl⟩
    | ok m e1 v =>
      obtain ⟨g', k1, k2⟩ := h2 v e1 (g1 _ rfl)
      dsimp only at k2
      refine ⟨SRes.more m g', fun r q => smore_env q k1, fun a dd => ?_⟩
      dsimp only [sbind]
      rw [g2]
      show SRes.more m (k a dd v (e1.set i (excSlot x a dd))) = _
      rw [k2, smore_map]
theorem us_seq {f g : Addr → Addr → SDen} (h : US i x f) (k : US i x g) : US i x (fun a dd => sseq (f a dd) (g a dd)) := fun e he => by
  obtain ⟨q, q1, q2⟩ := h e he
  cases q with
  | none => exact ⟨none, fun r z => (by cases z), fun a dd => by dsimp only [sseq]; rw [q2]; rfl⟩
  | some r =>
    cases r with
    | nx m e1 =>
      obtain ⟨g', k1, k2⟩ := k e1 (q1 _ rfl)
      refine ⟨SRes.more m g', fun r q => smore_env q k1, fun a dd => ?_⟩
      dsimp only [sseq]
      rw [q2]
      show SRes.more m (g a dd (e1.set i (excSlot x a dd))) = _
      rw [k2, smore_map]
    | rt m e1 v => exact ⟨some (.rt m e1 v), fun r z => by cases z; exact q1 _ rfl, fun a dd => by dsimp only [sseq]; rw [q2]; rfl⟩
    | bk m e1 => exact ⟨some (.bk m e1), fun r z => by cases z; exact q1 _ rfl, fun a dd => by dsimp only [sseq]; rw [q2]; rfl⟩
    | ct m e1 => exact ⟨some (.ct m e1), fun r z => by cases z; exact q1 _ rfl, fun a dd => by dsimp only [sseq]; rw [q2]; rfl⟩
    | er m e1 v => exact ⟨some (.er m e1 v), fun r z => by cases z; exact q1 _ rfl, fun a dd => by dsimp only [sseq]; rw [q2]; rfl⟩
theorem us_ite {c : Prop} [Decidable c] {f g : Addr → Addr → SDen} (h : US i x f) (k : US i x g) : US i x (fun a dd => if c then f a dd else g a dd) := by
  by_cases hc : c
  · simp only [if_pos hc]; exact h
  · simp only [if_neg hc]; exact k
theorem us_if {t : Addr → Addr → Den Bool} {f g : Addr → Addr → SDen} (ht : UD i x t) (h : US i x f) (k : US i x g) : US i x (fun a dd => sif (t a dd) (f a dd) (g a dd)) := us_bind ht fun v => us_ite h k
theorem us_rt {f : Addr → Addr → Den Rv} (h : UD i x f) : US i x (fun a dd => srt (f a dd)) := us_bind h fun v e he => ⟨some (.rt false e v), fun r z => by cases z; exact he, fun a dd => rfl⟩
theorem us_drop {f : Addr → Addr → Den Rv} (h : UD i x f) : US i x (fun a dd => sdrop (f a dd)) := us_bind h fun v => us_next
theorem us_bk : US i x (fun _ _ => fun e => some (.bk false e)) := fun e he => ⟨some (.bk false e), fun r z => by cases z; exact he, fun a dd => rfl⟩
theorem us_ct : US i x (fun _ _ => fun e => some (.ct false e)) := fun e he => ⟨some (.ct false e), fun r z => by cases z; exact he, fun a dd => rfl⟩
theorem us_rtN : US i x (fun _ _ => fun e => some (.rt false e (.im .non))) := fun e he => ⟨some (.rt false e (.im .non)), fun r z => by cases z; exact he, fun a dd => rfl⟩
/-- x = e, frozen -/
theorem us_setI {j : Nat} (hj : j ≠ i) {f : Addr → Addr → Den D} (h : UD i x f) : US i x (fun a dd => sset j (imR (f a dd))) := fun e he => by
  obtain ⟨g, g1, g2⟩ := ud_imR h e he
  dsimp only at g2
  have fr : ∀ (e : Env) a dd, Env.free (e.set i (excSlot x a dd)) j = Env.free e j := fun e a dd => by
    unfold Env.free
    rw [List.getElem?_set_ne (Ne.symm hj)]
  have im : ∀ r, g = some r → ∀ m e' v, r = .ok m e' v → ∃ d, v = .im d := fun r hr m e' v hv => by
    subst hv
    have z := g2 0 0
    rw [hr] at z
    dsimp only [imR, dbind] at z
    cases q : f 0 0 (e.set i (excSlot x 0 0)) with
    | none => rw [q] at z; cases z
    | some w =>
      rw [q] at z
      cases w with
      | err m1 e1 y => cases z
      | ok m1 e1 d =>
        have z2 : some (Res.ok (m1 || false) e1 (Rv.im d)) = some (Res.ok m (e'.set i (excSlot x 0 0)) v) := z
        injection z2 with z2
        injection z2 with z3 z4 z5
        exact ⟨d, z5.symm⟩
  cases g with
  | none => exact ⟨none, fun r z => (by cases z), fun a dd => by dsimp only [sset, sbind]; rw [g2]; rfl⟩
  | some r =>
    cases r with
    | err m e1 z => exact ⟨some (.er m e1 z), fun r q => by cases q; exact g1 _ rfl, fun a dd => by dsimp only [sset, sbind]; rw [g2]; rfl⟩
    | ok m e1 v =>
      obtain ⟨d, rfl⟩ := im _ rfl _ _ _ rfl
      by_cases hf : Env.free e1 j = true
      · refine ⟨some (.nx (m || false) (e1.set j (some (false, .im d)))), fun r q => by cases q; exact free_set (g1 _ rfl) hj, fun a dd => ?_⟩
        dsimp only [sset, sbind]
        rw [g2]
        dsimp only [Option.map_some, Res.mapE]
        rw [fr, if_pos hf]
        dsimp only [SRes.more, SRes.mapE]
        rw [List.set_comm _ _ (Ne.symm hj)]
      · refine ⟨none, fun r z => (by cases z), fun a dd => ?_⟩
        dsimp only [sset, sbind]
        rw [g2]
        dsimp only [Option.map_some, Res.mapE]
        rw [fr, if_neg hf]
        rfl
theorem us_uni {f : Addr → Addr → SDen} {e : Env} (h : US i x f) (he : Env.free e i = true) : ∀ a dd, (f a dd (e.set i (excSlot x a dd))).bind (clr (some i)) = (f 0 0 (e.set i (excSlot x 0 0))).bind (clr (some i)) := by
  obtain ⟨g, g1, g2⟩ := h e he
  have key : ∀ a dd, (f a dd (e.set i (excSlot x a dd))).bind (clr (some i)) = g.bind fun r => clr (some i) r := fun a dd => by
    rw [g2]
    cases g with
    | none => rfl
    | some r =>
      have hf := g1 _ rfl
      have hlt := free_lt hf
      have ce : clrE (some i) (r.envOf.set i (excSlot x a dd)) = clrE (some i) r.envOf := by
        have z : Env.free (r.envOf.set i (excSlot x a dd)) i = true := by
          unfold Env.free
          rw [List.getElem?_set_self hlt]
          rfl
        show (if _ then _ else _) = (if _ then _ else _)
        rw [if_pos z, if_pos hf, List.set_set]
      cases r with
      | nx m e1 => show (clrE (some i) (e1.set i (excSlot x a dd))).map _ = (clrE (some i) e1).map _; rw [show clrE (some i) (e1.set i (excSlot x a dd)) = clrE (some i) e1 from ce]
      | bk m e1 => show (clrE (some i) (e1.set i (excSlot x a dd))).map _ = (clrE (some i) e1).map _; rw [show clrE (some i) (e1.set i (excSlot x a dd)) = clrE (some i) e1 from ce]
      | ct m e1 => show (clrE (some i) (e1.set i (excSlot x a dd))).map _ = (clrE (some i) e1).map _; rw [show clrE (some i) (e1.set i (excSlot x a dd)) = clrE (some i) e1 from ce]
      | er m e1 y => rfl
      | rt m e1 v =>
        cases v with
        | im d => show (clrE (some i) (e1.set i (excSlot x a dd))).map _ = (clrE (some i) e1).map _; rw [show clrE (some i) (e1.set i (excSlot x a dd)) = clrE (some i) e1 from ce]
        | new d => show (clrE (some i) (e1.set i (excSlot x a dd))).map _ = (clrE (some i) e1).map _; rw [show clrE (some i) (e1.set i (excSlot x a dd)) = clrE (some i) e1 from ce]
        | bor j o =>
          show (if some i = some j then none else (clrE (some i) (e1.set i (excSlot x a dd))).map _) = (if some i = some j then none else (clrE (some i) e1).map _)
          rw [show clrE (some i) (e1.set i (excSlot x a dd)) = clrE (some i) e1 from ce]
  intro a dd
  rw [key, key]
end
theorem w_stI {e : Env} {N : Env → Prop} {R : Rv → Env → Prop} {B C : Env → Prop} {i : Nat} {de di : Den D} (p : EW false de e fun x e1 => (∃ b os, lk e1 i = some (b, .lst os)) ∧ EW false di e1 fun k e2 => ∃ b os n y j, lk e2 i = some (b, .lst os) ∧ k = .int j ∧ L2.ixN os.length j = some n ∧ os[n]? = some (.im y) ∧ N (e2.set i (some (b, .lst (os.set n (.im x)))))) :
    SW (sstI i de di) e ⟨N, R, B, C⟩ := by
  refine sw_bind.mpr (ew_imp p ?_)
  rintro x e1 ⟨⟨b0, os0, h0⟩, p2⟩
  have hs : slotO e1 i = some (.lst os0) := by
    unfold slotO
    rw [lk_some h0]
  show SW (fun e1 => match slotO e1 i with
    | some _ => sbind di (fun k e => match e[i]?, k with
      | some (some (b, .lst os)), .int j => match ixN os.length j with
        | some n => match os[n]? with
          | some (.im _) => some (.nx true (e.set i (some (b, .lst (os.set n (.im x))))))
          | _ => none
        | none => none
      | _, _ => none) e1
    | none => none) e1 ⟨N, R, B, C⟩
  unfold SW
  dsimp only
  rw [hs]
  refine sw_bind.mpr (ew_imp p2 ?_)
  rintro k e2 ⟨b, os, n, y, j, h1, rfl, h2, h3, hN⟩
  refine ⟨.nx true (e2.set i (some (b, .lst (os.set n (.im x))))), ?_, hN⟩
  dsimp only
  rw [lk_some h1]
  dsimp only
  rw [h2]
  dsimp only
  rw [h3]
end DL

/-! TOK: texts of tokens, plainly. -/
namespace TOK
open PySem DL L2
abbrev S (l : List Nat) : Str := ⟨l.toArray⟩
theorem S_len (l : List Nat) : (S l).length = l.length := by show l.toArray.size = _; simp
theorem S_app (l m : List Nat) : S l ++ S m = S (l ++ m) := by show (⟨l.toArray ++ m.toArray⟩ : Str) = _; simp
theorem S_inj {l m : List Nat} (h : S l = S m) : l = m := by
  have := congrArg (fun x : Str => x.cps.toList) h
  simpa using this
def dig (c : Nat) : Bool := decide (48 ≤ c ∧ c ≤ 57)
def ltr (c : Nat) : Bool := decide (97 ≤ c ∧ c ≤ 122)
def sgs : List Nat := [60, 61, 43, 45, 42, 40, 41, 91, 93, 44, 59]
theorem op_at {l : List Nat} {i : Nat} {P : O → Prop} (h : i < l.length) (hz : l.length ≤ 1000000) (p : P (.im (.str (S [l[i]])))) : OP (elemOO (.im (.str (S l))) (.int i)) P := by
  refine ⟨.im (.str (S [l[i]])), ?_, p⟩
  show (if (S l).length ≤ sizeLine then (L2.atI (S l).cps.toList i).map fun c => D.str ⟨#[c]⟩ else none).map O.im = _
  rw [if_pos (by rw [S_len]; exact Nat.le_trans hz (by decide)), show (S l).cps.toList = l from rfl, atI_nn _ _ (by omega), Int.toNat_natCast, List.getElem?_eq_getElem h]
  rfl
theorem op_lenS {l : List Nat} {P : D → Prop} (hz : l.length ≤ 1000000) (p : P (.int (l.length : Int))) : OP (lenD [.str (S l)]) P :=
  ⟨.int (l.length : Int), by
    show (if (S l).length ≤ sizeLine then some (D.int ((S l).length : Int)) else none) = _
    rw [S_len, if_pos (Nat.le_trans hz (by decide))], p⟩
theorem in_sign (c : Nat) (z : Str) : inD (.str (S [c])) (.str z) = some (decide (c ∈ z.cps.toList)) := by
  show some (!(Builtin.Str.occurrences z (S [c]) 0 z.length 1).isEmpty) = _
  exact congrArg some (PySem.StrLaws.found_one z c)
theorem in_dig (c : Nat) : inD (.str (S [c])) (.str (Str.ofString "0123456789")) = some (dig c) := by
  rw [in_sign, show (Str.ofString "0123456789").cps.toList = [48, 49, 50, 51, 52, 53, 54, 55, 56, 57] by decide +kernel]
  congr 1
  unfold dig
  rw [decide_eq_decide]
  simp only [List.mem_cons, List.not_mem_nil, or_false]
  omega
theorem in_ltr (c : Nat) : inD (.str (S [c])) (.str (Str.ofString "abcdefghijklmnopqrstuvwxyz")) = some (ltr c) := by
  rw [in_sign, show (Str.ofString "abcdefghijklmnopqrstuvwxyz").cps.toList = [97, 98, 99, 100, 101, 102, 103, 104, 105, 106, 107, 108, 109, 110, 111, 112, 113, 114, 115, 116, 117, 118, 119, 120, 121, 122] by decide +kernel]
  congr 1
  unfold ltr
  rw [decide_eq_decide]
  simp only [List.mem_cons, List.not_mem_nil, or_false]
  omega
theorem in_sgs (c : Nat) : inD (.str (S [c])) (.str (Str.ofString "<=+-*()[],;")) = some (decide (c ∈ sgs)) := by
  rw [in_sign, show (Str.ofString "<=+-*()[],;").cps.toList = sgs by decide +kernel]
theorem mem_dig (c : Nat) : decide (c ∈ (Str.ofString "0123456789").cps.toList) = dig c := Option.some.inj ((in_sign c _).symm.trans (in_dig c))
theorem mem_ltr (c : Nat) : decide (c ∈ (Str.ofString "abcdefghijklmnopqrstuvwxyz").cps.toList) = ltr c := Option.some.inj ((in_sign c _).symm.trans (in_ltr c))
theorem mem_sgs (c : Nat) : decide (c ∈ (Str.ofString "<=+-*()[],;").cps.toList) = decide (c ∈ sgs) := Option.some.inj ((in_sign c _).symm.trans (in_sgs c))
theorem br_sg {c : Nat} {z : Str} {X Y : Prop} (h : BR (decide (c ∈ z.cps.toList)) Y X) : BR (Builtin.Str.occurrences z (S [c]) 0 z.length 1).isEmpty X Y := by
  rw [← PySem.StrLaws.found_one z c] at h
  exact ⟨fun e => h.2 (by rw [show (Builtin.Str.occurrences z ⟨#[c]⟩ 0 z.length 1).isEmpty = true from e]; rfl), fun e => h.1 (by rw [show (Builtin.Str.occurrences z ⟨#[c]⟩ 0 z.length 1).isEmpty = false from e]; rfl)⟩
theorem br_dg {c : Nat} {X Y : Prop} (h : BR (dig c) Y X) : BR (Builtin.Str.occurrences (Str.ofString "0123456789") (S [c]) 0 (Str.ofString "0123456789").length 1).isEmpty X Y := br_sg (by rw [mem_dig]; exact h)
theorem br_lt {c : Nat} {X Y : Prop} (h : BR (ltr c) Y X) : BR (Builtin.Str.occurrences (Str.ofString "abcdefghijklmnopqrstuvwxyz") (S [c]) 0 (Str.ofString "abcdefghijklmnopqrstuvwxyz").length 1).isEmpty X Y := br_sg (by rw [mem_ltr]; exact h)
theorem br_si {c : Nat} {X Y : Prop} (h : BR (decide (c ∈ sgs)) Y X) : BR (Builtin.Str.occurrences (Str.ofString "<=+-*()[],;") (S [c]) 0 (Str.ofString "<=+-*()[],;").length 1).isEmpty X Y := br_sg (by rw [mem_sgs]; exact h)
/-- signs below 128 -/
def ok (l : List Nat) : Prop := ∀ c ∈ l, c < 128
theorem strOk_S {l : List Nat} (h : ok l) : PyData.strOk (S l) = true := by
  show l.toArray.all (· < 0x110000) = true
  rw [List.all_toArray, List.all_eq_true]
  intro c hc
  have := h c hc
  exact decide_eq_true (by omega)
theorem ok_app {l m : List Nat} (h : ok l) (k : ok m) : ok (l ++ m) := fun c hc => (List.mem_append.mp hc).elim (h c) (k c)
theorem ok_rep (n : Nat) : ok (List.replicate n 32) := fun c hc => by rw [(List.mem_replicate.mp hc).2]; omega
theorem nice_S {l : List Nat} (h : ok l) : nice 0 (.str (S l)) = true := by rw [nice]; exact strOk_S h
theorem op_eqS {l m : List Nat} {P : Bool → Prop} (h : ok l) (k : ok m) (p : P (decide (l = m))) : OP (eqD (.str (S l)) (.str (S m))) P := by
  obtain ⟨b, hb, hiff⟩ := eqD_nice (nice_S h) (nice_S k)
  refine ⟨b, hb, ?_⟩
  have : b = decide (l = m) := by
    rw [Bool.eq_iff_iff, hiff, decide_eq_true_iff]
    constructor
    · intro z; injection z with z; exact S_inj z
    · intro z; rw [z]
  rw [this]
  exact p
theorem cutS_eq {l : List Nat} {a b : Nat} (h : a ≤ l.length) : cutS (S l) (some (a : Int)) (some (b : Int)) = S ((l.drop a).take (b - a)) := by
  unfold cutS
  rw [HT.sIx_nat, HT.sIx_nat, S_len, show (S l).cps.toList = l from rfl, Nat.min_eq_left h]
  congr 2
  by_cases hb : b ≤ l.length
  · rw [Nat.min_eq_left hb]
  · rw [Nat.min_eq_right (by omega), List.take_of_length_le (by rw [List.length_drop]; omega), List.take_of_length_le (by rw [List.length_drop]; omega)]
/-! ### runs -/
theorem while_take {p : Nat → Bool} : ∀ {l : List Nat} {q : Nat}, (∀ c ∈ l.take q, p c = true) → (∀ c, (l.drop q).head? = some c → p c = false) → q ≤ l.length → l.takeWhile p = l.take q
  | [], q, _, _, hq => by rw [List.takeWhile_nil, List.take_nil]
  | c :: l, 0, _, h, _ => by
    rw [List.take_zero, List.takeWhile_cons, h c rfl]
    rfl
  | c :: l, q + 1, h1, h2, hq => by
    rw [List.take_succ_cons, List.takeWhile_cons, h1 c (by rw [List.take_succ_cons]; exact List.mem_cons_self)]
    show c :: List.takeWhile p l = c :: List.take q l
    rw [while_take (l := l) (q := q) (fun d hd => h1 d (by rw [List.take_succ_cons]; exact List.mem_cons_of_mem _ hd)) h2 (by simpa using hq)]
theorem while_app {p : Nat → Bool} {t r : List Nat} (h1 : ∀ c ∈ t, p c = true) (h2 : ∀ c, r.head? = some c → p c = false) : (t ++ r).takeWhile p = t := by
  rw [while_take (q := t.length) (by rw [List.take_left]; exact h1) (by rw [List.drop_left]; exact h2) (by rw [List.length_append]; omega), List.take_left]
/-! ### tokens -/
def numT (t : List Nat) : Prop := t ≠ [] ∧ (∀ c ∈ t, dig c = true) ∧ (t.head? = some 48 → t.length = 1) ∧ t.length ≤ 16 ∧ ∃ n : Int, intText? (S t) = some n ∧ n ≤ 1000000000000000
def wordT (t : List Nat) : Prop := t ≠ [] ∧ (∀ c ∈ t, ltr c = true) ∧ t.length ≤ 12
def signL : List (List Nat) := [[61, 61], [60, 61], [60], [61], [43], [45], [42], [40], [41], [91], [93], [44], [59]]
def Tok (t : List Nat) : Prop := numT t ∨ wordT t ∨ t ∈ signL
theorem dig_lt {c : Nat} (h : dig c = true) : 48 ≤ c ∧ c ≤ 57 := of_decide_eq_true h
theorem ltr_lt {c : Nat} (h : ltr c = true) : 97 ≤ c ∧ c ≤ 122 := of_decide_eq_true h
theorem Tok.ne {t : List Nat} (h : Tok t) : t ≠ [] := by
  rcases h with h | h | h
  · exact h.1
  · exact h.1
  · intro e; rw [e] at h; exact absurd h (by decide)
theorem Tok.len {t : List Nat} (h : Tok t) : t.length ≤ 16 := by
  rcases h with h | h | h
  · exact h.2.2.2.1
  · exact Nat.le_trans h.2.2 (by omega)
  · exact (by decide : ∀ t ∈ signL, t.length ≤ 16) t h
theorem Tok.ok {t : List Nat} (h : Tok t) : ok t := by
  intro c hc
  rcases h with h | h | h
  · have := dig_lt (h.2.1 c hc); omega
  · have := ltr_lt (h.2.1 c hc); omega
  · exact (by decide : ∀ t ∈ signL, ∀ c ∈ t, c < 128) t h c hc
/-- what a token begins with -/
def hd (t : List Nat) : Nat := t.headD 0
theorem Tok.hd_num {t : List Nat} (h : numT t) : dig (hd t) = true := by
  obtain ⟨h1, h2, _⟩ := h
  cases t with
  | nil => exact absurd rfl h1
  | cons c t => exact h2 c List.mem_cons_self
theorem Tok.hd_word {t : List Nat} (h : wordT t) : ltr (hd t) = true := by
  obtain ⟨h1, h2, _⟩ := h
  cases t with
  | nil => exact absurd rfl h1
  | cons c t => exact h2 c List.mem_cons_self
theorem Tok.hd_sign {t : List Nat} (h : t ∈ signL) : hd t ∈ sgs ∧ dig (hd t) = false ∧ ltr (hd t) = false := (by decide : ∀ t ∈ signL, hd t ∈ sgs ∧ dig (hd t) = false ∧ ltr (hd t) = false) t h
theorem dig_ltr {c : Nat} (h : dig c = true) : ltr c = false := by
  have := dig_lt h
  exact decide_eq_false (by omega)
theorem ltr_dig {c : Nat} (h : ltr c = true) : dig c = false := by
  have := ltr_lt h
  exact decide_eq_false (by omega)
/-- do they read as one -/
def glued (b a : List Nat) : Bool := if dig (hd b) then dig (hd a) else if ltr (hd b) then ltr (hd a) else ((decide (b = [60]) || decide (b = [61])) && decide (hd a = 61))
/-- what may follow t -/
def fol (t r : List Nat) : Prop := (numT t → ∀ c, r.head? = some c → dig c = false) ∧ (wordT t → ∀ c, r.head? = some c → ltr c = false) ∧ (t = [60] ∨ t = [61] → r.head? ≠ some 61)
theorem fol_space {t r : List Nat} (h : ∀ c, r.head? = some c → c = 32) : fol t r := by
  refine ⟨fun _ c hc => ?_, fun _ c hc => ?_, fun _ hc => ?_⟩
  · rw [h c hc]; rfl
  · rw [h c hc]; rfl
  · exact absurd (h 61 hc) (by decide)
theorem fol_tok {t a r : List Nat} (ht : Tok t) (ha : Tok a) (h : glued t a = false) : fol t (a ++ r) := by
  have hh : (a ++ r).head? = some (hd a) := by
    cases a with
    | nil => exact absurd rfl ha.ne
    | cons c a => rfl
  unfold glued at h
  refine ⟨fun hn c hc => ?_, fun hw c hc => ?_, fun hs hc => ?_⟩
  · rw [hh] at hc
    cases hc
    rw [if_pos (Tok.hd_num hn)] at h
    exact h
  · rw [hh] at hc
    cases hc
    rw [if_neg (by rw [ltr_dig (Tok.hd_word hw)]; exact Bool.false_ne_true), if_pos (Tok.hd_word hw)] at h
    exact h
  · rw [hh] at hc
    have h61 : hd a = 61 := Option.some.inj hc
    rw [h61] at h
    rcases hs with rfl | rfl <;> exact absurd h (by decide)
/-! ### the text -/
abbrev Sg := Nat × List Nat
def txt : List Sg → Nat → List Nat
  | [], f => List.replicate f 32
  | (g, t) :: r, f => List.replicate g 32 ++ (t ++ txt r f)
def ex (p : Nat) : List Sg → List (List Nat × Nat)
  | [] => []
  | (g, t) :: r => (t, p + g) :: ex (p + g + t.length) r
def Good : List Sg → Nat → Prop
  | [], _ => True
  | (_, t) :: r, f => Tok t ∧ fol t (txt r f) ∧ Good r f
def Adj : List Sg → Prop
  | [] => True
  | [x] => Tok x.2
  | x :: y :: r => Tok x.2 ∧ (y.1 > 0 ∨ glued x.2 y.2 = false) ∧ Adj (y :: r)
theorem rep_head {n : Nat} {r : List Nat} (h : 0 < n) : (List.replicate n 32 ++ r).head? = some 32 := by
  cases n with
  | zero => omega
  | succ n => rfl
theorem Adj.good : ∀ {l : List Sg} {f : Nat}, Adj l → Good l f
  | [], f, _ => .intro
  | [(g, t)], f, h => ⟨h, fol_space fun c hc => by
      cases f with
      | zero => cases hc
      | succ f => cases hc; rfl, .intro⟩
  | (g, t) :: (g', t') :: r, f, h => by
    obtain ⟨h1, h2, h3⟩ := h
    have k := Adj.good (f := f) h3
    refine ⟨h1, ?_, k⟩
    by_cases hg : 0 < g'
    · exact fol_space fun c hc => by
        have hc : (List.replicate g' 32 ++ (t' ++ txt r f)).head? = some c := hc
        rw [rep_head hg] at hc
        cases hc
        rfl
    · have : g' = 0 := by omega
      subst this
      exact (fol_tok (r := txt r f) h1 k.1 (h2.resolve_left (by omega)) : fol t (t' ++ txt r f))
theorem Adj.snoc : ∀ {l : List Sg} {g : Nat} {t : List Nat}, Adj l → Tok t → (∀ x, l.getLast? = some x → g > 0 ∨ glued x.2 t = false) → Adj (l ++ [(g, t)])
  | [], g, t, _, ht, _ => ht
  | [x], g, t, h, ht, hl => ⟨h, hl x rfl, ht⟩
  | x :: y :: r, g, t, h, ht, hl => ⟨h.1, h.2.1, Adj.snoc h.2.2 ht fun z hz => hl z (by rw [List.getLast?_cons_cons]; exact hz)⟩
theorem txt_snoc : ∀ (l : List Sg) (g : Nat) (t : List Nat), txt (l ++ [(g, t)]) 0 = txt l 0 ++ (List.replicate g 32 ++ t)
  | [], g, t => by
    show List.replicate g 32 ++ (t ++ List.replicate 0 32) = List.replicate 0 32 ++ _
    simp
  | (g', t') :: r, g, t => by
    show List.replicate g' 32 ++ (t' ++ txt (r ++ [(g, t)]) 0) = (List.replicate g' 32 ++ (t' ++ txt r 0)) ++ _
    rw [txt_snoc r g t, List.append_assoc, List.append_assoc]
theorem txt_end : ∀ (l : List Sg) (f : Nat), txt l f = txt l 0 ++ List.replicate f 32
  | [], f => by show List.replicate f 32 = List.replicate 0 32 ++ _; simp
  | (g, t) :: r, f => by
    show List.replicate g 32 ++ (t ++ txt r f) = (List.replicate g 32 ++ (t ++ txt r 0)) ++ _
    rw [txt_end r f, List.append_assoc, List.append_assoc]
theorem ex_snoc : ∀ (l : List Sg) (p g : Nat) (t : List Nat), ex p (l ++ [(g, t)]) = ex p l ++ [(t, p + (txt l 0).length + g)]
  | [], p, g, t => rfl
  | (g', t') :: r, p, g, t => by
    show (t', p + g') :: ex (p + g' + t'.length) (r ++ [(g, t)]) = ((t', p + g') :: ex (p + g' + t'.length) r) ++ _
    rw [ex_snoc r, List.cons_append]
    congr 3
    show (t, _) = (t, _)
    congr 1
    show p + g' + t'.length + (txt r 0).length + g = p + (List.replicate g' 32 ++ (t' ++ txt r 0)).length + g
    rw [List.length_append, List.length_append, List.length_replicate]
    omega
theorem ex_len : ∀ (l : List Sg) (p : Nat), (ex p l).length = l.length
  | [], p => rfl
  | (g, t) :: r, p => by show (ex _ r).length + 1 = r.length + 1; rw [ex_len r]
theorem ok_txt : ∀ {l : List Sg} {f : Nat}, Good l f → ok (txt l f)
  | [], f, _ => ok_rep f
  | (g, t) :: r, f, h => ok_app (ok_rep g) (ok_app h.1.ok (ok_txt h.2.2))
/-! ### numbers -/
theorem num_ok {n : Nat} (h : n ≤ 1000000000000000) : numT (TL.numL n) := by
  have hl : (TL.numL n).length ≤ 16 := TL.numL_len (k := 16) (by omega) (by omega)
  have hd0 : ∀ (k n : Nat), n < 10 ^ k → n ≠ 0 → (TL.numL n).head? ≠ some 48 := by
    intro k
    induction k with
    | zero => intro n h1 h2; omega
    | succ k ih =>
      intro n h1 h2
      by_cases h10 : n < 10
      · rw [TL.numL_lt h10]
        intro e
        have : 48 + n = 48 := Option.some.inj e
        omega
      · rw [TL.numL_step (by omega)]
        have h3 : n / 10 < 10 ^ k := by rw [Nat.pow_succ] at h1; omega
        have h4 := ih (n / 10) h3 (by omega)
        have h5 := TL.numL_ne (n / 10)
        cases e : TL.numL (n / 10) with
        | nil => exact absurd e h5
        | cons c r => rw [e] at h4; exact h4
  refine ⟨TL.numL_ne n, fun c hc => ?_, fun he => ?_, hl, n, ?_, by omega⟩
  · have := TL.numL_digits n c hc
    exact decide_eq_true (by omega)
  · by_cases h0 : n = 0
    · rw [h0, TL.numL_lt (by omega)]; rfl
    · exact absurd he (hd0 16 n (by omega) h0)
  · have e : S (TL.numL n) = Str.ofString (toString ((n : Nat) : Int)) := TL.ext_tl (TL.tl_num n).symm
    rw [e]
    exact TL.int_num (by omega)
theorem ok_one {c : Nat} (h : c < 128) : ok [c] := fun d hd => by rw [List.mem_singleton.mp hd]; exact h
theorem op_slice {l : List Nat} {a b : Nat} {bi : Int} {P : Rv → Prop} (h : a ≤ l.length) (hz : l.length ≤ 1000000) (hb : bi = (b : Int)) (p : P (.im (.str (S ((l.drop a).take (b - a)))))) : OP (cutO (.im (.str (S l))) (some (a : Int)) (some bi)) P := by
  refine ⟨_, ?_, p⟩
  rw [hb]
  show (if (S l).length ≤ sizeLine then some (Rv.im (.str (cutS (S l) (some (a : Int)) (some (b : Int))))) else none) = _
  rw [if_pos (by rw [S_len]; exact Nat.le_trans hz (by decide)), cutS_eq h]
theorem in_dbl (y : List Nat) : inD (.str (S y)) (.tup [.str (Str.ofString "=="), .str (Str.ofString "<=")]) = some (decide (y = [61, 61] ∨ y = [60, 61])) := by
  show some (((Str.ofString "==") == S y) || (((Str.ofString "<=") == S y) || false)) = _
  congr 1
  rw [show Str.ofString "==" = S [61, 61] by decide +kernel, show Str.ofString "<=" = S [60, 61] by decide +kernel, Bool.eq_iff_iff, decide_eq_true_iff, Bool.or_false, Bool.or_eq_true, beq_iff_eq, beq_iff_eq]
  constructor
  · rintro (h | h)
    · exact .inl (S_inj h).symm
    · exact .inr (S_inj h).symm
  · rintro (rfl | rfl)
    · exact .inl rfl
    · exact .inr rfl
theorem br_db {y : List Nat} {X Y : Prop} (h : BR (decide (y = [61, 61] ∨ y = [60, 61])) X Y) : BR (L2.inV (toV (.str (S y))) (List.map toV [.str (Str.ofString "=="), .str (Str.ofString "<=")])) X Y := by
  rw [show L2.inV (toV (.str (S y))) (List.map toV [.str (Str.ofString "=="), .str (Str.ofString "<=")]) = _ from Option.some.inj (in_dbl y)]
  exact h
theorem two_sign {t r : List Nat} (ht : t ∈ signL) (hf : fol t r) : ((t ++ r).take 2 = [61, 61] ∨ (t ++ r).take 2 = [60, 61]) ↔ (t = [61, 61] ∨ t = [60, 61]) := by
  have h3 := hf.2.2
  simp only [signL, List.mem_cons, List.not_mem_nil, or_false] at ht
  cases r with
  | nil => rcases ht with rfl | rfl | rfl | rfl | rfl | rfl | rfl | rfl | rfl | rfl | rfl | rfl | rfl <;> simp
  | cons c r =>
    have h4 : t = [60] ∨ t = [61] → c ≠ 61 := fun z e => h3 z (by rw [e]; rfl)
    rcases ht with rfl | rfl | rfl | rfl | rfl | rfl | rfl | rfl | rfl | rfl | rfl | rfl | rfl <;> simp_all
theorem sign_two {t : List Nat} (ht : t ∈ signL) (h : t = [61, 61] ∨ t = [60, 61]) (r : List Nat) : (t ++ r).take 2 = t := by rcases h with rfl | rfl <;> rfl
theorem sign_one {t : List Nat} (ht : t ∈ signL) (h : ¬ (t = [61, 61] ∨ t = [60, 61])) : t = [hd t] := by
  simp only [signL, List.mem_cons, List.not_mem_nil, or_false] at ht
  rcases ht with rfl | rfl | rfl | rfl | rfl | rfl | rfl | rfl | rfl | rfl | rfl | rfl | rfl <;> first | rfl | exact absurd (.inl rfl) h | exact absurd (.inr rfl) h
theorem Tok.hd_ne {t : List Nat} (h : Tok t) : hd t ≠ 32 := by
  rcases h with h | h | h
  · have := dig_lt (Tok.hd_num h); omega
  · have := ltr_lt (Tok.hd_word h); omega
  · exact (by decide : ∀ t ∈ signL, hd t ≠ 32) t h
theorem Tok.cons {t : List Nat} (h : Tok t) : ∃ r, t = hd t :: r := by
  cases t with
  | nil => exact absurd rfl h.ne
  | cons c r => exact ⟨r, rfl⟩
/-- the next sign is a space, or a token begins -/
theorem step {g : Nat} {l : List Sg} {f : Nat} (hG : Good l f) (hne : List.replicate g 32 ++ txt l f ≠ []) :
    (∃ g2 l2 f2, List.replicate g 32 ++ txt l f = 32 :: (List.replicate g2 32 ++ txt l2 f2) ∧ Good l2 f2 ∧ ∀ p, ex (p + 1 + g2) l2 = ex (p + g) l) ∨ (g = 0 ∧ ∃ t r, l = (0, t) :: r) := by
  cases g with
  | succ n => exact .inl ⟨n, l, f, rfl, hG, fun p => by rw [show p + 1 + n = p + (n + 1) by omega]⟩
  | zero =>
    cases l with
    | nil =>
      cases f with
      | zero => exact absurd rfl hne
      | succ m => exact .inl ⟨0, [], m, rfl, .intro, fun p => rfl⟩
    | cons x r =>
      obtain ⟨h, t⟩ := x
      cases h with
      | zero => exact .inr ⟨rfl, t, r, rfl⟩
      | succ n => exact .inl ⟨0, (n, t) :: r, f, rfl, hG, fun p => by
          show (t, p + 1 + 0 + n) :: ex (p + 1 + 0 + n + t.length) r = (t, p + 0 + (n + 1)) :: ex (p + 0 + (n + 1) + t.length) r
          rw [show p + 1 + 0 + n = p + 0 + (n + 1) by omega]⟩
def tkD (q : List Nat × Nat) : D := .tup [.str (S q.1), .int (q.2 : Int)]
end TOK

/-! TOL: texts with bad things, plainly. -/
namespace TOK
open PySem DL L2
def badN (b : List Nat) : Prop := b ≠ [] ∧ (∀ c ∈ b, dig c = true) ∧ b.length ≤ 60 ∧ ((b.head? = some 48 ∧ 1 < b.length) ∨ ∃ n : Int, intText? (S b) = some n ∧ 1000000000000000 < n)
def badW (b : List Nat) : Prop := (∀ c ∈ b, ltr c = true) ∧ 12 < b.length ∧ b.length ≤ 60
def badC (b : List Nat) : Prop := ∃ c, b = [c] ∧ c < 128 ∧ dig c = false ∧ ltr c = false ∧ c ∉ sgs ∧ c ≠ 32
def BadT (b : List Nat) : Prop := badN b ∨ badW b ∨ badC b
structure Th (t : List Nat) : Prop where
  ne : t ≠ []
  len : t.length ≤ 60
  ok : ok t
  hd : hd t ≠ 32
theorem Tok.th {t : List Nat} (h : Tok t) : Th t := ⟨h.ne, by have := h.len; omega, h.ok, h.hd_ne⟩
theorem badW_ne {b : List Nat} (h : badW b) : b ≠ [] := fun e => by rw [e] at h; exact absurd h.2.1 (by decide)
theorem hd_mem {t : List Nat} (h : t ≠ []) : hd t ∈ t := by
  cases t with
  | nil => exact absurd rfl h
  | cons c t => exact List.mem_cons_self
theorem BadT.th {b : List Nat} (h : BadT b) : Th b := by
  rcases h with h | h | ⟨c, rfl, h1, h2, h3, h4, h5⟩
  · refine ⟨h.1, h.2.2.1, fun c hc => ?_, ?_⟩
    · have := dig_lt (h.2.1 c hc); omega
    · have := dig_lt (h.2.1 _ (hd_mem h.1)); omega
  · refine ⟨badW_ne h, h.2.2, fun c hc => ?_, ?_⟩
    · have := ltr_lt (h.1 c hc); omega
    · have := ltr_lt (h.1 _ (hd_mem (badW_ne h))); omega
  · exact ⟨by simp, by show 1 ≤ 60; omega, ok_one h1, h5⟩
/-- what may follow a thing -/
def folB (t r : List Nat) : Prop := (dig (hd t) = true → ∀ c, r.head? = some c → dig c = false) ∧ (ltr (hd t) = true → ∀ c, r.head? = some c → ltr c = false) ∧ (t = [60] ∨ t = [61] → r.head? ≠ some 61)
theorem folB.fol {t r : List Nat} (h : folB t r) : fol t r := ⟨fun n => h.1 (Tok.hd_num n), fun w => h.2.1 (Tok.hd_word w), h.2.2⟩
theorem folB_space {t r : List Nat} (h : ∀ c, r.head? = some c → c = 32) : folB t r := by
  refine ⟨fun _ c hc => ?_, fun _ c hc => ?_, fun _ hc => ?_⟩
  · rw [h c hc]; rfl
  · rw [h c hc]; rfl
  · exact absurd (h 61 hc) (by decide)
theorem folB_th {t a r : List Nat} (ht : Th t) (ha : Th a) (h : glued t a = false) : folB t (a ++ r) := by
  have hh : (a ++ r).head? = some (hd a) := by
    cases a with
    | nil => exact absurd rfl ha.ne
    | cons c a => rfl
  unfold glued at h
  refine ⟨fun hn c hc => ?_, fun hw c hc => ?_, fun hs hc => ?_⟩
  · rw [hh] at hc
    cases hc
    rw [if_pos hn] at h
    exact h
  · rw [hh] at hc
    cases hc
    rw [if_neg (by rw [ltr_dig hw]; exact Bool.false_ne_true), if_pos hw] at h
    exact h
  · rw [hh] at hc
    have h61 : hd a = 61 := Option.some.inj hc
    rw [h61] at h
    rcases hs with rfl | rfl <;> exact absurd h (by decide)
/-! ### a text whose rest is anything -/
def txtR : List Sg → List Nat → List Nat
  | [], s => s
  | (g, t) :: r, s => List.replicate g 32 ++ (t ++ txtR r s)
def GoodR : List Sg → List Nat → Prop
  | [], _ => True
  | (_, t) :: r, s => Tok t ∧ fol t (txtR r s) ∧ GoodR r s
/-- neighbours that don't grow together -/
def AdjB : List Sg → Prop
  | [] => True
  | [x] => Th x.2
  | x :: y :: r => Th x.2 ∧ (y.1 > 0 ∨ glued x.2 y.2 = false) ∧ AdjB (y :: r)
theorem AdjB.snoc : ∀ {l : List Sg} {g : Nat} {t : List Nat}, AdjB l → Th t → (∀ x, l.getLast? = some x → g > 0 ∨ glued x.2 t = false) → AdjB (l ++ [(g, t)])
  | [], g, t, _, ht, _ => ht
  | [x], g, t, h, ht, hl => ⟨h, hl x rfl, ht⟩
  | x :: y :: r, g, t, h, ht, hl => ⟨h.1, h.2.1, AdjB.snoc h.2.2 ht fun z hz => hl z (by rw [List.getLast?_cons_cons]; exact hz)⟩
theorem AdjB.th : ∀ {l : List Sg}, AdjB l → ∀ x ∈ l, Th x.2
  | [], _, x, m => by cases m
  | [y], h, x, m => by rw [List.mem_singleton.mp m]; exact h
  | y :: z :: r, h, x, m => by
    rcases List.mem_cons.mp m with rfl | m
    · exact h.1
    · exact AdjB.th h.2.2 x m
/-- where all things are tokens -/
theorem AdjB.adj : ∀ {l : List Sg}, AdjB l → (∀ x ∈ l, Tok x.2) → Adj l
  | [], _, _ => .intro
  | [x], h, k => k x List.mem_cons_self
  | x :: y :: r, h, k => ⟨k x List.mem_cons_self, h.2.1, AdjB.adj h.2.2 fun z hz => k z (List.mem_cons_of_mem _ hz)⟩
/-- the tokens ahead of a thing, and what follows it -/
theorem AdjB.split : ∀ {l1 : List Sg} {g : Nat} {t : List Nat} {l2 : List Sg}, AdjB (l1 ++ (g, t) :: l2) → (∀ x ∈ l1, Tok x.2) → GoodR l1 (List.replicate g 32 ++ (t ++ txt l2 0)) ∧ Th t ∧ folB t (txt l2 0)
  | [], g, t, [], h, k => ⟨.intro, h, folB_space fun c hc => by cases hc⟩
  | [], g, t, (g', t') :: l2, h, k => by
    obtain ⟨h1, h2, h3⟩ : Th t ∧ (g' > 0 ∨ glued t t' = false) ∧ AdjB ((g', t') :: l2) := h
    refine ⟨.intro, h1, ?_⟩
    have ht' : Th t' := h3.th (g', t') List.mem_cons_self
    by_cases hg : 0 < g'
    · exact folB_space fun c hc => by
        have hc : (List.replicate g' 32 ++ (t' ++ txt l2 0)).head? = some c := hc
        rw [rep_head hg] at hc
        cases hc
        rfl
    · have : g' = 0 := by omega
      subst this
      exact (folB_th (r := txt l2 0) h1 ht' (h2.resolve_left (by omega)) : folB t (t' ++ txt l2 0))
  | [x], g, t, l2, h, k => by
    obtain ⟨gx, tx⟩ := x
    obtain ⟨h1, h2, h3⟩ : Th tx ∧ (g > 0 ∨ glued tx t = false) ∧ AdjB ((g, t) :: l2) := h
    obtain ⟨_, k2, k3⟩ := AdjB.split (l1 := []) h3 (fun z hz => by cases hz)
    refine ⟨⟨k _ List.mem_cons_self, ?_, .intro⟩, k2, k3⟩
    by_cases hg : 0 < g
    · exact fol_space fun c hc => by
        have hc : (List.replicate g 32 ++ (t ++ txt l2 0)).head? = some c := hc
        rw [rep_head hg] at hc
        cases hc
        rfl
    · have : g = 0 := by omega
      subst this
      exact (folB_th (r := txt l2 0) h1 k2 (h2.resolve_left (by omega))).fol
  | x :: y :: l1, g, t, l2, h, k => by
    obtain ⟨gx, tx⟩ := x
    obtain ⟨gy, ty⟩ := y
    obtain ⟨h1, h2, h3⟩ : Th tx ∧ (gy > 0 ∨ glued tx ty = false) ∧ AdjB (((gy, ty) :: l1) ++ (g, t) :: l2) := h
    obtain ⟨k1, k2, k3⟩ := AdjB.split (l1 := (gy, ty) :: l1) h3 fun z hz => k z (List.mem_cons_of_mem _ hz)
    refine ⟨⟨k _ List.mem_cons_self, ?_, k1⟩, k2, k3⟩
    have hy : Th ty := h3.th (gy, ty) List.mem_cons_self
    by_cases hg : 0 < gy
    · exact fol_space fun c hc => by
        have hc : (List.replicate gy 32 ++ (ty ++ txtR l1 (List.replicate g 32 ++ (t ++ txt l2 0)))).head? = some c := hc
        rw [rep_head hg] at hc
        cases hc
        rfl
    · have : gy = 0 := by omega
      subst this
      exact (folB_th (r := txtR l1 (List.replicate g 32 ++ (t ++ txt l2 0))) h1 hy (h2.resolve_left (by omega))).fol
theorem txt_split : ∀ (l1 : List Sg) (g : Nat) (t : List Nat) (l2 : List Sg), txt (l1 ++ (g, t) :: l2) 0 = txtR l1 (List.replicate g 32 ++ (t ++ txt l2 0))
  | [], g, t, l2 => rfl
  | (g', t') :: l1, g, t, l2 => by
    show List.replicate g' 32 ++ (t' ++ txt (l1 ++ (g, t) :: l2) 0) = _
    rw [txt_split l1]
    rfl
/-- where a thing behind l1 begins -/
def wid : List Sg → Nat
  | [] => 0
  | (g, t) :: r => g + t.length + wid r
theorem wid_txt : ∀ l : List Sg, wid l = (txt l 0).length
  | [] => rfl
  | (g, t) :: r => by
    show g + t.length + wid r = (List.replicate g 32 ++ (t ++ txt r 0)).length
    rw [wid_txt r, List.length_append, List.length_append, List.length_replicate]
    omega
/-- the next sign is a space, a token begins, or the rest does -/
theorem stepR {g : Nat} {l : List Sg} {s : List Nat} (hG : GoodR l s) :
    (∃ g2 l2, List.replicate g 32 ++ txtR l s = 32 :: (List.replicate g2 32 ++ txtR l2 s) ∧ GoodR l2 s ∧ l2.length = l.length ∧ 1 + g2 + wid l2 = g + wid l) ∨ (g = 0 ∧ ∃ t r, l = (0, t) :: r) ∨ (g = 0 ∧ l = []) := by
  cases g with
  | succ n => exact .inl ⟨n, l, rfl, hG, rfl, by omega⟩
  | zero =>
    cases l with
    | nil => exact .inr (.inr ⟨rfl, rfl⟩)
    | cons x r =>
      obtain ⟨h, t⟩ := x
      cases h with
      | zero => exact .inr (.inl ⟨rfl, t, r, rfl⟩)
      | succ n => exact .inl ⟨0, (n, t) :: r, rfl, hG, rfl, by show 1 + 0 + (n + t.length + wid r) = 0 + (n + 1 + t.length + wid r); omega⟩
/-! ### bad numbers -/
theorem int_S {n : Nat} (h : n < 10 ^ 60) : intText? (S (TL.numL n)) = some (n : Int) := by
  have hl := TL.numL_len (k := 60) (by omega) h
  have e : S (TL.numL n) = Str.ofString (toString ((n : Nat) : Int)) := TL.ext_tl (TL.tl_num n).symm
  rw [e]
  exact TL.int_num (by omega)
theorem numL_dig (n : Nat) : ∀ c ∈ TL.numL n, dig c = true := fun c hc => by
  have := TL.numL_digits n c hc
  exact decide_eq_true (by omega)
theorem bad_num {n : Nat} (h : n < 10 ^ 60) (h1 : 1000000000000000 < n) : badN (TL.numL n) :=
  ⟨TL.numL_ne n, numL_dig n, TL.numL_len (k := 60) (by omega) h, .inr ⟨n, int_S h, by omega⟩⟩
theorem numL_take {n : Nat} (h : n < 10 ^ 41) (h1 : 100000000000000000 < n) : badN ((TL.numL n).take 40) := by
  by_cases hl : (TL.numL n).length ≤ 40
  · rw [List.take_of_length_le hl]
    exact bad_num (Nat.lt_trans h (by decide)) (by omega)
  · have h2 : n / 10 < 10 ^ 40 := by rw [Nat.div_lt_iff_lt_mul (by omega)]; exact h
    have h3 := TL.numL_len (k := 40) (by omega) h2
    have e := TL.numL_step (n := n) (by omega)
    have h4 : (TL.numL (n / 10)).length = 40 := by
      rw [e, List.length_append] at hl
      have : ([48 + n % 10] : List Nat).length = 1 := rfl
      omega
    rw [e, List.take_append_of_le_length (by omega), List.take_of_length_le (by omega)]
    exact bad_num (Nat.lt_trans h2 (by decide)) (by omega)
theorem bad_zero (n : Nat) (h : n < 1000) : badN (48 :: TL.numL n) := by
  have hl := TL.numL_len (k := 3) (by omega) (show n < 10 ^ 3 from h)
  have hp : 0 < (TL.numL n).length := List.length_pos_iff.mpr (TL.numL_ne n)
  refine ⟨by simp, fun c hc => ?_, by show (TL.numL n).length + 1 ≤ 60; omega, .inl ⟨rfl, by show 1 < (TL.numL n).length + 1; omega⟩⟩
  rcases List.mem_cons.mp hc with rfl | hc
  · rfl
  · exact numL_dig n c hc
end TOK

namespace K08
open PySem PySem.Spec PyProof.Rows L2 Evl DL
/-- _law_numbers: 0 _law_script, 1 _law_many, 2 _law_numbers_here, 3 _law_seed, 4 _law_cell, 5 _law_rest, 6 _law_turn, 7 _law_k, 8 _law_mixed -/
noncomputable def d__law_numbers : SDen := (sseq (sset 2 (dlst (dpure []))) (sseq (sset 3 (imR (dpure (.int 7)))) (sseq (sfor (dvar 0) (bName 4) (sseq (sset 5 (imR (dbind (dconsV (vw (dvar 4)) (dpure [])) fun vs => dlift (absD vs)))) (sseq (sset 3 (imR (dbin (dbind (dconsV (dbin (dbin (dbin (frz (dvar 3)) (dpure (.int 48271)) mulD) (dbin (frz (dvar 5)) (dpure (.int 69621)) mulD) addD) (dpure (.int 11)) addD) (dpure [])) fun vs => dlift (intD vs)) (dpure (.int 2147483647)) modD))) (sif (dtB (dcmp (vw (dvar 5)) (dbin (dpure (.int 10)) (dpure (.int 18)) powD) geD)) (sforP (rg rng1D (dcons (dpure (.int 60)) (dpure []))) (bName 6) (sif (dtB (dcmp (vw (dvar 5)) (dpure (.int 1000)) geD)) (sseq (sapp 2 (imR (dbin (dbind (dconsV (vw (dvar 5)) (dpure [])) fun vs => dlift (intD vs)) (dpure (.int 1000)) modD))) (sset 5 (imR (dbin (frz (dvar 5)) (dpure (.int 1000)) divD)))) snext)) snext)))) (sseq (sset 2 (dslice (ow (dvar 2)) (dpure none) (dbind (frz (dvar 1)) fun d => dlift (partD d)))) (sseq (sforP (rg rng1D (dcons (dbin (frz (dvar 1)) (dbind (dconsV (vw (dvar 2)) (dpure [])) fun vs => dlift (lenD vs)) subD) (dpure []))) (bName 7) (sseq (sset 8 (imR (dbin (dbind (dconsV (dbin (dbin (dbin (frz (dvar 3)) (dpure (.int 48271)) mulD) (dbin (frz (dvar 7)) (dpure (.int 69621)) mulD) addD) (dpure (.int 11)) addD) (dpure [])) fun vs => dlift (intD vs)) (dpure (.int 2147483647)) modD))) (sseq (sset 8 (imR (dbin (dbind (dconsV (dbin (dbin (dbin (frz (dvar 8)) (frz (dvar 8)) mulD) (dbin (dpure (.int 40692)) (frz (dvar 7)) mulD) addD) (dpure (.int 3)) addD) (dpure [])) fun vs => dlift (intD vs)) (dpure (.int 2147483629)) modD))) (sapp 2 (imR (dbin (dbind (dconsV (dbin (frz (dvar 8)) (dpure (.int 7)) divD) (dpure [])) fun vs => dlift (intD vs)) (dpure (.int 1000)) modD)))))) (srt (drev (ow (dvar 2)))))))))
noncomputable def f__law_numbers : FDen := fnden 9 (d__law_numbers)
/-- _law_draw: 0 _law_draws, 1 _law_many -/
noncomputable def d__law_draw : SDen := (sseq (sif (dtB (dcmp (dbind (dconsV (vw (dvar 0)) (dpure [])) fun vs => dlift (lenD vs)) (dpure (.int 0)) eqD)) (srt (imR (dpure (.int 0)))) snext) (srt (imR (dbin (dbind (dconsV (vw (dpop 0)) (dpure [])) fun vs => dlift (intD vs)) (frz (dvar 1)) modD))))
noncomputable def f__law_draw : FDen := fnden 2 (d__law_draw)
/-- _law_glued: 0 _law_before, 1 _law_after, 2 _law_letters -/
noncomputable def d__law_glued : SDen := (sseq (sset 2 (imR (dpure (.str "abcdefghijklmnopqrstuvwxyz")))) (sseq (sif (dtB (dcmp (fl (dixO (ow (dvar 0)) (dpure (.int 0)))) (dpure (.str "0123456789")) inD)) (srt (imR (dcmp (fl (dixO (ow (dvar 1)) (dpure (.int 0)))) (dpure (.str "0123456789")) inD))) snext) (sseq (sif (dtB (dcmp (fl (dixO (ow (dvar 0)) (dpure (.int 0)))) (vw (dvar 2)) inD)) (srt (imR (dcmp (fl (dixO (ow (dvar 1)) (dpure (.int 0)))) (vw (dvar 2)) inD))) snext) (srt (imR (dandV (dorV (dcmp (vw (dvar 0)) (dpure (.str "<")) eqD) (dcmp (vw (dvar 0)) (dpure (.str "=")) eqD)) (dcmp (fl (dixO (ow (dvar 1)) (dpure (.int 0)))) (dpure (.str "=")) eqD)))))))
noncomputable def f__law_glued : FDen := fnden 3 (d__law_glued)
/-- _law_big: 0 _law_draws, 1 _law_number, 2 _law_k -/
noncomputable def d__law_big : SDen := (sseq (sset 1 (imR (dpure (.int 0)))) (sseq (sforP (rg rng1D (dcons (dpure (.int 6)) (dpure []))) (bName 2) (sset 1 (imR (dbin (dbin (frz (dvar 1)) (dpure (.int 1000)) mulD) (frz (dbind (darcons (dvar 0) (darcons (imR (dpure (.int 1000))) (dpure []))) fun as => dfnA 2 (f__law_draw) as)) addD)))) (srt (dvar 1))))
noncomputable def f__law_big : FDen := fnden 3 (d__law_big)
/-- _law_bad: 0 _law_draws, 1 _law_choice, 2 _law_word_here, 3 _law_k, 4 _law_chars -/
noncomputable def d__law_bad : SDen := (sseq (sset 1 (imR (frz (dbind (darcons (dvar 0) (darcons (imR (dpure (.int 6))) (dpure []))) fun as => dfnA 2 (f__law_draw) as)))) (sseq (sif (dtB (dcmp (vw (dvar 1)) (dpure (.int 0)) eqD)) (srt (imR (dbin (dpure (.str "0")) (dbind (dconsV (vw (dbind (darcons (dvar 0) (darcons (imR (dpure (.int 1000))) (dpure []))) fun as => dfnA 2 (f__law_draw) as)) (dpure [])) fun vs => dlift (strD vs)) addD))) snext) (sseq (sif (dtB (dcmp (vw (dvar 1)) (dpure (.int 1)) eqD)) (srt (imR (dbind (dconsV (dbin (dbin (dbin (dpure (.int 10)) (dpure (.int 15)) powD) (dpure (.int 1)) addD) (dbin (frz (dlst (dcons (dpure (.int 0)) (dcons (frz (dbind (darcons (dvar 0) (dpure [])) fun as => dfnA 1 (f__law_big) as)) (dpure []))))) (frz (dbind (darcons (dvar 0) (darcons (imR (dpure (.int 2))) (dpure []))) fun as => dfnA 2 (f__law_draw) as)) elemD) addD) (dpure [])) fun vs => dlift (strD vs)))) snext) (sseq (sif (dtB (dcmp (vw (dvar 1)) (dpure (.int 2)) eqD)) (srt (imR (dbind (dconsV (dbin (dbin (dpure (.int 10)) (dpure (.int 40)) powD) (frz (dbind (darcons (dvar 0) (dpure [])) fun as => dfnA 1 (f__law_big) as)) addD) (dpure [])) fun vs => dlift (strD vs)))) snext) (sseq (sif (dtB (dcmp (vw (dvar 1)) (dpure (.int 3)) eqD)) (sseq (sset 2 (imR (dpure (.str "abcdefghijklm")))) (sseq (sforP (rg rng1D (dcons (frz (dbind (darcons (dvar 0) (darcons (imR (dpure (.int 28))) (dpure []))) fun as => dfnA 2 (f__law_draw) as)) (dpure []))) (bName 3) (sset 2 (imR (dbin (frz (dvar 2)) (dbin (dpure (.str "abcdefghijklmnopqrstuvwxyz")) (frz (dbind (darcons (dvar 0) (darcons (imR (dpure (.int 26))) (dpure []))) fun as => dfnA 2 (f__law_draw) as)) elemD) addD)))) (srt (dvar 2)))) snext) (sseq (sif (dtB (dcmp (vw (dvar 1)) (dpure (.int 4)) eqD)) (srt (imR (dbin (dpure (.str "ABCDEFGHIJKLMNOPQRSTUVWXYZ")) (frz (dbind (darcons (dvar 0) (darcons (imR (dpure (.int 26))) (dpure []))) fun as => dfnA 2 (f__law_draw) as)) elemD))) snext) (sseq (sset 4 (imR (dpure (.str "!\"#$&'./:>?@^_\\`{|}~")))) (srt (imR (dbin (frz (dvar 4)) (dbin (dbind (dconsV (vw (dbind (darcons (dvar 0) (darcons (imR (dpure (.int 1000))) (dpure []))) fun as => dfnA 2 (f__law_draw) as)) (dpure [])) fun vs => dlift (intD vs)) (dbind (dconsV (vw (dvar 4)) (dpure [])) fun vs => dlift (lenD vs)) modD) elemD))))))))))
noncomputable def f__law_bad : FDen := fnden 5 (d__law_bad)
/-- _law_word: 0 _law_draws, 1 _law_letters, 2 _law_many, 3 _law_word_here, 4 _law_k -/
noncomputable def d__law_word : SDen := (sseq (sset 1 (imR (dpure (.str "abcdefghijklmnopqrstuvwxyz")))) (sseq (sset 2 (imR (dbin (frz (dlst (dcons (dpure (.int 1)) (dcons (dpure (.int 1)) (dcons (dpure (.int 1)) (dcons (dpure (.int 2)) (dcons (dpure (.int 3)) (dcons (dbin (dpure (.int 1)) (frz (dbind (darcons (dvar 0) (darcons (imR (dpure (.int 12))) (dpure []))) fun as => dfnA 2 (f__law_draw) as)) addD) (dpure []))))))))) (frz (dbind (darcons (dvar 0) (darcons (imR (dpure (.int 6))) (dpure []))) fun as => dfnA 2 (f__law_draw) as)) elemD))) (sseq (sset 3 (imR (dpure (.str "")))) (sseq (sforP (rg rng1D (dcons (frz (dvar 2)) (dpure []))) (bName 4) (sset 3 (imR (dbin (frz (dvar 3)) (dbin (frz (dvar 1)) (frz (dbind (darcons (dvar 0) (darcons (imR (dpure (.int 26))) (dpure []))) fun as => dfnA 2 (f__law_draw) as)) elemD) addD)))) (srt (dvar 3))))))
noncomputable def f__law_word : FDen := fnden 5 (d__law_word)
/-- _law_reserved: 0 _law_words -/
noncomputable def d__law_reserved : SDen := (sseq (sset 0 (imR (frz (dlst (dcons (dpure (.str "begins")) (dcons (dpure (.str "ends")) (dcons (dpure (.str "signers")) (dcons (dpure (.str "spent")) (dcons (dpure (.str "looked")) (dcons (dpure (.str "made")) (dcons (dpure (.str "here")) (dcons (dpure (.str "datum")) (dcons (dpure (.str "redeemer")) (dcons (dpure (.str "guarding")) (dpure []))))))))))))))) (sseq (sset 0 (imR (frz (dcat (ow (dvar 0)) (ow (dlst (dcons (dpure (.str "first")) (dcons (dpure (.str "second")) (dcons (dpure (.str "count")) (dcons (dpure (.str "head")) (dcons (dpure (.str "tail")) (dcons (dpure (.str "item")) (dcons (dpure (.str "coin")) (dcons (dpure (.str "held")) (dcons (dpure (.str "data")) (dcons (dpure (.str "keyed")) (dcons (dpure (.str "homed")) (dpure [])))))))))))))))))) (sseq (sset 0 (imR (frz (dcat (ow (dvar 0)) (ow (dlst (dcons (dpure (.str "minted")) (dcons (dpure (.str "signed")) (dcons (dpure (.str "spends")) (dcons (dpure (.str "def")) (dcons (dpure (.str "let")) (dcons (dpure (.str "in")) (dcons (dpure (.str "if")) (dcons (dpure (.str "then")) (dcons (dpure (.str "else")) (dcons (dpure (.str "fold")) (dcons (dpure (.str "from")) (dcons (dpure (.str "do")) (dpure []))))))))))))))))))) (srt (dcat (ow (dvar 0)) (ow (dlst (dcons (dpure (.str "note")) (dcons (dpure (.str "or")) (dcons (dpure (.str "and")) (dcons (dpure (.str "not")) (dcons (dpure (.str "div")) (dcons (dpure (.str "mod")) (dcons (dpure (.str "true")) (dcons (dpure (.str "false")) (dcons (dpure (.str "fail")) (dpure [])))))))))))))))))
noncomputable def f__law_reserved : FDen := fnden 1 (d__law_reserved)
/-- _law_token: 0 _law_draws, 1 _law_choice, 2 _law_big_here, 3 _law_numbers_here -/
noncomputable def d__law_token : SDen := (sseq (sset 1 (imR (frz (dbind (darcons (dvar 0) (darcons (imR (dpure (.int 5))) (dpure []))) fun as => dfnA 2 (f__law_draw) as)))) (sseq (sif (dtB (dcmp (vw (dvar 1)) (dpure (.int 0)) eqD)) (sseq (sset 2 (imR (frz (dbind (darcons (dvar 0) (dpure [])) fun as => dfnA 1 (f__law_big) as)))) (sseq (sset 3 (imR (frz (dlst (dcons (dpure (.int 0)) (dcons (dpure (.int 9)) (dcons (dpure (.int 10)) (dcons (dbin (dbind (dconsV (vw (dvar 2)) (dpure [])) fun vs => dlift (intD vs)) (dpure (.int 10)) modD) (dcons (dbin (dbind (dconsV (vw (dvar 2)) (dpure [])) fun vs => dlift (intD vs)) (dpure (.int 1000)) modD) (dcons (dbin (dpure (.int 10)) (dpure (.int 15)) powD) (dcons (dbin (dbin (dpure (.int 10)) (dpure (.int 15)) powD) (dpure (.int 1)) subD) (dcons (dbin (dbind (dconsV (vw (dvar 2)) (dpure [])) fun vs => dlift (intD vs)) (dbin (dbin (dpure (.int 10)) (dpure (.int 15)) powD) (dpure (.int 1)) addD) modD) (dpure []))))))))))))) (srt (imR (dbind (dconsV (dbin (frz (dvar 3)) (frz (dbind (darcons (dvar 0) (darcons (imR (dpure (.int 8))) (dpure []))) fun as => dfnA 2 (f__law_draw) as)) elemD) (dpure [])) fun vs => dlift (strD vs)))))) snext) (sseq (sif (dtB (dcmp (vw (dvar 1)) (dpure (.int 1)) eqD)) (srt (dbind (darcons (dvar 0) (dpure [])) fun as => dfnA 1 (f__law_word) as)) snext) (sseq (sif (dtB (dcmp (vw (dvar 1)) (dpure (.int 2)) eqD)) (srt (imR (dbin (frz (dfnA 0 (f__law_reserved) (([] : List D).map AR.im))) (frz (dbind (darcons (dvar 0) (darcons (imR (dpure (.int 42))) (dpure []))) fun as => dfnA 2 (f__law_draw) as)) elemD))) snext) (srt (imR (dbin (frz (dlst (dcons (dpure (.str "==")) (dcons (dpure (.str "<=")) (dcons (dpure (.str "<")) (dcons (dpure (.str "=")) (dcons (dpure (.str "+")) (dcons (dpure (.str "-")) (dcons (dpure (.str "*")) (dcons (dpure (.str "(")) (dcons (dpure (.str ")")) (dcons (dpure (.str "[")) (dcons (dpure (.str "]")) (dcons (dpure (.str ",")) (dcons (dpure (.str ";")) (dpure [])))))))))))))))) (frz (dbind (darcons (dvar 0) (darcons (imR (dpure (.int 13))) (dpure []))) fun as => dfnA 2 (f__law_draw) as)) elemD)))))))
noncomputable def f__law_token : FDen := fnden 4 (d__law_token)
/-- _law_things: 0 _law_draws, 1 _law_menu, 2 _law_things_here, 3 _law_k -/
noncomputable def d__law_things : SDen := (sseq (sif (dtB (dcmp (vw (dbind (darcons (dvar 0) (darcons (imR (dpure (.int 4))) (dpure []))) fun as => dfnA 2 (f__law_draw) as)) (dpure (.int 0)) eqD)) (sseq (sset 1 (imR (frz (dlst (dcons (dpure (.str "1")) (dcons (dpure (.str "x")) (dcons (dpure (.str "(")) (dcons (dpure (.str ",")) (dcons (dpure (.str "=")) (dcons (dpure (.str "<=")) (dcons (dpure (.str "in")) (dcons (dpure (.str "7")) (dcons (dpure (.str "-")) (dpure [])))))))))))))) (sseq (sset 2 (dcomp (rg rng1D (dcons (dbin (dpure (.int 190)) (frz (dbind (darcons (dvar 0) (darcons (imR (dpure (.int 20))) (dpure []))) fun as => dfnA 2 (f__law_draw) as)) addD) (dpure []))) (bName 3) (dpure true) (imR (dtup (dcons (dbin (frz (dvar 1)) (frz (dbind (darcons (dvar 0) (darcons (imR (dpure (.int 9))) (dpure []))) fun as => dfnA 2 (f__law_draw) as)) elemD) (dcons (dpure (.bl false)) (dpure []))))) [3])) (sseq (sif (dtB (dcmp (vw (dbind (darcons (dvar 0) (darcons (imR (dpure (.int 3))) (dpure []))) fun as => dfnA 2 (f__law_draw) as)) (dpure (.int 0)) gtD)) (sstI 2 (dtup (dcons (frz (dslice (ow (dbind (darcons (dvar 0) (dpure [])) fun as => dfnA 1 (f__law_bad) as)) (dpure none) (dbind (dpure (.int 40)) fun d => dlift (partD d)))) (dcons (dpure (.bl true)) (dpure [])))) (dbin (dbind (dconsV (dbin (dpure (.int 180)) (frz (dbind (darcons (dvar 0) (darcons (imR (dpure (.int 30))) (dpure []))) fun as => dfnA 2 (f__law_draw) as)) addD) (dpure [])) fun vs => dlift (intD vs)) (dbind (dconsV (vw (dvar 2)) (dpure [])) fun vs => dlift (lenD vs)) modD)) snext) (srt (dvar 2))))) snext) (sseq (sset 2 (dcomp (rg rng1D (dcons (frz (dbind (darcons (dvar 0) (darcons (imR (dpure (.int 13))) (dpure []))) fun as => dfnA 2 (f__law_draw) as)) (dpure []))) (bName 3) (dpure true) (imR (dtup (dcons (frz (dbind (darcons (dvar 0) (dpure [])) fun as => dfnA 1 (f__law_token) as)) (dcons (dpure (.bl false)) (dpure []))))) [3])) (sseq (sforP (rg rng1D (dcons (dbin (dpure (.int 1)) (frz (dbind (darcons (dvar 0) (darcons (imR (dpure (.int 2))) (dpure []))) fun as => dfnA 2 (f__law_draw) as)) addD) (dpure []))) (bName 3) (sins 2 (dcons (dbin (dbind (dconsV (vw (dbind (darcons (dvar 0) (darcons (imR (dpure (.int 1000))) (dpure []))) fun as => dfnA 2 (f__law_draw) as)) (dpure [])) fun vs => dlift (intD vs)) (dbin (dbind (dconsV (vw (dvar 2)) (dpure [])) fun vs => dlift (lenD vs)) (dpure (.int 1)) addD) modD) (dcons (dtup (dcons (frz (dbind (darcons (dvar 0) (dpure [])) fun as => dfnA 1 (f__law_bad) as)) (dcons (dpure (.bl true)) (dpure [])))) (dpure []))))) (srt (dvar 2)))))
noncomputable def f__law_things : FDen := fnden 4 (d__law_things)
/-- run_of: 0 text, 1 place, 2 chars, 3 end -/
noncomputable def d_run_of : SDen := (sseq (sset 3 (imR (frz (dvar 1)))) (sseq (swhile (dand (dtB (dcmp (vw (dvar 3)) (dbind (dconsV (vw (dvar 0)) (dpure [])) fun vs => dlift (lenD vs)) ltD)) (dtB (dcmp (fl (dixO (ow (dvar 0)) (frz (dvar 3)))) (vw (dvar 2)) inD))) (sset 3 (imR (dbin (frz (dvar 3)) (dpure (.int 1)) addD))) 1000000) (srt (dslice (ow (dvar 0)) (dbind (frz (dvar 1)) fun d => dlift (partD d)) (dbind (frz (dvar 3)) fun d => dlift (partD d))))))
noncomputable def f_run_of : FDen := fnden 4 (d_run_of)
/-- number_at: 0 text, 1 place, 2 digits -/
noncomputable def d_number_at : SDen := (sseq (sset 2 (imR (frz (dbind (darcons (dvar 0) (darcons (dvar 1) (darcons (imR (dpure (.str "0123456789"))) (dpure [])))) fun as => dfnA 3 (f_run_of) as)))) (sseq (sif (dor (dand (dtB (dcmp (fl (dixO (ow (dvar 2)) (dpure (.int 0)))) (dpure (.str "0")) eqD)) (dtB (dcmp (dbind (dconsV (vw (dvar 2)) (dpure [])) fun vs => dlift (lenD vs)) (dpure (.int 1)) gtD))) (dtB (dcmp (dbind (dconsV (vw (dvar 2)) (dpure [])) fun vs => dlift (intS vs)) (dpure (.int 1000000000000000)) gtD))) (sraise "BadToken" (frz (dvar 1))) snext) (srt (dvar 2))))
noncomputable def f_number_at : FDen := fnden 3 (d_number_at)
/-- word_at: 0 text, 1 place, 2 word -/
noncomputable def d_word_at : SDen := (sseq (sset 2 (imR (frz (dbind (darcons (dvar 0) (darcons (dvar 1) (darcons (imR (dpure (.str "abcdefghijklmnopqrstuvwxyz"))) (dpure [])))) fun as => dfnA 3 (f_run_of) as)))) (sseq (sif (dtB (dcmp (dbind (dconsV (vw (dvar 2)) (dpure [])) fun vs => dlift (lenD vs)) (dpure (.int 12)) gtD)) (sraise "BadToken" (frz (dvar 1))) snext) (srt (dvar 2))))
noncomputable def f_word_at : FDen := fnden 3 (d_word_at)
/-- token_at: 0 text, 1 place -/
noncomputable def d_token_at : SDen := (sseq (sif (dtB (dcmp (fl (dixO (ow (dvar 0)) (frz (dvar 1)))) (dpure (.str "0123456789")) inD)) (srt (dbind (darcons (dvar 0) (darcons (dvar 1) (dpure []))) fun as => dfnA 2 (f_number_at) as)) snext) (sseq (sif (dtB (dcmp (fl (dixO (ow (dvar 0)) (frz (dvar 1)))) (dpure (.str "abcdefghijklmnopqrstuvwxyz")) inD)) (srt (dbind (darcons (dvar 0) (darcons (dvar 1) (dpure []))) fun as => dfnA 2 (f_word_at) as)) snext) (sseq (sif (dtB (dcmp (vw (dslice (ow (dvar 0)) (dbind (frz (dvar 1)) fun d => dlift (partD d)) (dbind (dbin (frz (dvar 1)) (dpure (.int 2)) addD) fun d => dlift (partD d)))) (dpure (.tup [.str "==", .str "<="])) inD)) (srt (dslice (ow (dvar 0)) (dbind (frz (dvar 1)) fun d => dlift (partD d)) (dbind (dbin (frz (dvar 1)) (dpure (.int 2)) addD) fun d => dlift (partD d)))) snext) (sseq (sif (dtB (dcmp (fl (dixO (ow (dvar 0)) (frz (dvar 1)))) (dpure (.str "<=+-*()[],;")) inD)) (srt (imR (imD (dixO (ow (dvar 0)) (frz (dvar 1)))))) snext) (sraise "BadToken" (frz (dvar 1)))))))
noncomputable def f_token_at : FDen := fnden 2 (d_token_at)
/-- tokens: 0 text, 1 found, 2 place, 3 token -/
noncomputable def d_tokens : SDen := (sseq (sset 1 (dlst (dpure []))) (sseq (sset 2 (imR (dpure (.int 0)))) (sseq (swhile (dtB (dcmp (vw (dvar 2)) (dbind (dconsV (vw (dvar 0)) (dpure [])) fun vs => dlift (lenD vs)) ltD)) (sif (dtB (dcmp (fl (dixO (ow (dvar 0)) (frz (dvar 2)))) (dpure (.str " ")) eqD)) (sset 2 (imR (dbin (frz (dvar 2)) (dpure (.int 1)) addD))) (sseq (sif (dtB (dcmp (dbind (dconsV (vw (dvar 1)) (dpure [])) fun vs => dlift (lenD vs)) (dpure (.int 200)) eqD)) (sraise "OverLimit" (frz (dvar 2))) snext) (sseq (sset 3 (imR (frz (dbind (darcons (dvar 0) (darcons (imR (frz (dvar 2))) (dpure []))) fun as => dfnA 2 (f_token_at) as)))) (sseq (sapp 1 (imR (dtup (dcons (frz (dvar 3)) (dcons (frz (dvar 2)) (dpure [])))))) (sset 2 (imR (dbin (frz (dvar 2)) (dbind (dconsV (vw (dvar 3)) (dpure [])) fun vs => dlift (lenD vs)) addD))))))) 1000000) (srt (dvar 1)))))
noncomputable def f_tokens : FDen := fnden 4 (d_tokens)
/-- _law_outcome: 0 _law_text, 1 e -/
noncomputable def d__law_outcome : SDen := (sseq (stry (sdrop (dbind (darcons (dvar 0) (dpure [])) fun as => dfnA 1 (f_tokens) as)) [⟨[("BadToken", true), ("OverLimit", false)], some 1, fun xa xd xc => (srt (imR (dtup (dcons (dpure (.str "token")) (dcons (dxf xa xd 1 "what") (dpure []))))))⟩, ⟨[("BadToken", false), ("OverLimit", true)], some 1, fun xa xd xc => (srt (imR (dtup (dcons (dpure (.str "limit")) (dcons (dxf xa xd 1 "what") (dpure []))))))⟩]) (srt (imR (dtup (dcons (dpure (.str "none")) (dcons (dpure (.int 0)) (dpure [])))))))
noncomputable def f__law_outcome : FDen := fnden 2 (d__law_outcome)
/-- _law_family: 0 _law_text, 1 _law_word_here, 2 e -/
noncomputable def d__law_family : SDen := (sseq (stry (sdrop (dbind (darcons (dvar 0) (dpure [])) fun as => dfnA 1 (f_tokens) as)) [⟨[("BadToken", true), ("OverLimit", true)], some 2, fun xa xd xc => (sseq (sif (dor (dnot (dtru (dxi xa xd 2 (([("BadToken", true), ("OverLimit", true)] : List (Str × Bool)).lookup xc)))) (dnot (dtru (dxi xa xd 2 (([("BadToken", true), ("OverLimit", true)] : List (Str × Bool)).lookup xc))))) (srt (imR (dpure (.bl false)))) snext) (sseq (sif (dor (dtru (dxi xa xd 2 (([("BadToken", false), ("OverLimit", false)] : List (Str × Bool)).lookup xc))) (dor (dtru (dxi xa xd 2 (([("BadToken", false), ("OverLimit", false)] : List (Str × Bool)).lookup xc))) (dor (dtru (dxi xa xd 2 (([("BadToken", false), ("OverLimit", false)] : List (Str × Bool)).lookup xc))) (dtru (dxi xa xd 2 (([("BadToken", false), ("OverLimit", false)] : List (Str × Bool)).lookup xc)))))) (srt (imR (dpure (.bl false)))) snext) (sseq (sif (dand (dtru (dxi xa xd 2 (([("BadToken", true), ("OverLimit", false)] : List (Str × Bool)).lookup xc))) (dtru (dxi xa xd 2 (([("BadToken", false), ("OverLimit", true)] : List (Str × Bool)).lookup xc)))) (srt (imR (dpure (.bl false)))) snext) (srt (imR (dcmp (vw (dvar 1)) (dpure (.str "none")) neD))))))⟩]) (srt (imR (dcmp (vw (dvar 1)) (dpure (.str "none")) eqD))))
noncomputable def f__law_family : FDen := fnden 3 (d__law_family)
/-- law: 0 _law_script, 1 _law_draws, 2 _law_text, 3 _law_before, 4 _law_expected, 5 _law_many, 6 _law_good, 7 _law_thing, 8 _law_bad_here, 9 _law_gap, 10 _law_told -/
noncomputable def d_law : SDen := (sseq (sset 1 (dbind (darcons (dvar 0) (darcons (imR (dpure (.int 700))) (dpure []))) fun as => dfnA 2 (f__law_numbers) as)) (sseq (sset 2 (imR (dbin (dpure (.str " ")) (frz (dbind (darcons (dvar 1) (darcons (imR (dpure (.int 3))) (dpure []))) fun as => dfnA 2 (f__law_draw) as)) mulS))) (sseq (sset 3 (imR (dpure (.str "")))) (sseq (sset 4 (imR (dtup (dcons (dpure (.str "none")) (dcons (dpure (.int 0)) (dpure [])))))) (sseq (sset 5 (imR (dpure (.int 0)))) (sseq (sset 6 (imR (dpure (.str "")))) (sseq (sforP (sq (frz (dbind (darcons (dvar 1) (dpure [])) fun as => dfnA 1 (f__law_things) as))) (bTup 2 (bCons (bName 7) (bCons (bName 8) bNil))) (sseq (sset 9 (imR (dbin (dpure (.str " ")) (frz (dbind (darcons (dvar 1) (darcons (imR (dpure (.int 2))) (dpure []))) fun as => dfnA 2 (f__law_draw) as)) mulS))) (sseq (sif (dand (dtB (dcmp (vw (dvar 3)) (dpure (.str "")) neD)) (dtru (vw (dbind (darcons (imR (frz (dvar 3))) (darcons (imR (frz (dvar 7))) (dpure []))) fun as => dfnA 2 (f__law_glued) as)))) (sset 9 (imR (dpure (.str " ")))) snext) (sseq (sset 2 (imR (dbin (frz (dvar 2)) (frz (dvar 9)) addD))) (sseq (sif (dand (dtB (dcmp (fl (dixO (ow (dvar 4)) (dpure (.int 0)))) (dpure (.str "none")) eqD)) (dtB (dcmp (vw (dvar 5)) (dpure (.int 200)) eqD))) (sset 4 (imR (dtup (dcons (dpure (.str "limit")) (dcons (dbind (dconsV (vw (dvar 2)) (dpure [])) fun vs => dlift (lenD vs)) (dpure [])))))) snext) (sseq (sif (dand (dtB (dcmp (fl (dixO (ow (dvar 4)) (dpure (.int 0)))) (dpure (.str "none")) eqD)) (dtru (vw (dvar 8)))) (sset 4 (imR (dtup (dcons (dpure (.str "token")) (dcons (dbind (dconsV (vw (dvar 2)) (dpure [])) fun vs => dlift (lenD vs)) (dpure [])))))) snext) (sseq (sset 2 (imR (dbin (frz (dvar 2)) (frz (dvar 7)) addD))) (sseq (sif (dand (dnot (dtru (vw (dvar 8)))) (dtB (dcmp (vw (dvar 5)) (dpure (.int 200)) ltD))) (sset 6 (imR (dbin (dbin (frz (dvar 6)) (dpure (.str " ")) addD) (frz (dvar 7)) addD))) snext) (sseq (sset 5 (imR (dbin (frz (dvar 5)) (dpure (.int 1)) addD))) (sset 3 (imR (frz (dvar 7))))))))))))) (sseq (sset 10 (imR (frz (dbind (darcons (imR (frz (dvar 2))) (dpure [])) fun as => dfnA 1 (f__law_outcome) as)))) (sseq (sif (dor (dtB (dcmp (fl (dixO (ow (dvar 10)) (dpure (.int 0)))) (fl (dixO (ow (dvar 4)) (dpure (.int 0)))) neD)) (dor (dnot (dtru (dbind (dconsV (fl (dixO (ow (dvar 10)) (dpure (.int 1)))) (dconsV (dpure (.ty "int")) (dpure []))) fun vs => dlift (isiD vs)))) (dor (dtru (dbind (dconsV (fl (dixO (ow (dvar 10)) (dpure (.int 1)))) (dconsV (dpure (.ty "bool")) (dpure []))) fun vs => dlift (isiD vs))) (dtB (dcmp (vw (dvar 10)) (vw (dvar 4)) neD))))) (srt (imR (dpure (.bl false)))) snext) (srt (imR (dandV (frz (dbind (darcons (imR (frz (dvar 2))) (darcons (imR (imD (dixO (ow (dvar 4)) (dpure (.int 0))))) (dpure []))) fun as => dfnA 2 (f__law_family) as)) (dcmp (vw (dbind (darcons (imR (frz (dvar 6))) (dpure [])) fun as => dfnA 1 (f__law_outcome) as)) (dtup (dcons (dpure (.str "none")) (dcons (dpure (.int 0)) (dpure [])))) eqD)))))))))))))
noncomputable def f_law : FDen := fnden 11 (d_law)
noncomputable def fA (_ : Unit) : FDen := f_law
def top (i : Nat) : Stmt := PySem.Challenge.pw_keptcoin_k08_bad_tokens.main.body.getD i (.Pass ⟨0, 0, 0, 0⟩)
abbrev s__law_numbers : Stmt := top 23
theorem sc__law_numbers : FnScope ["_law_script", "_law_many", "_law_numbers_here", "_law_seed", "_law_cell", "_law_rest", "_law_turn", "_law_k", "_law_mixed"] ["_law_script", "_law_many"] (defScope s__law_numbers) := ⟨rfl, rfl, rfl, by decide +kernel, rfl, by decide +kernel, by decide +kernel⟩
abbrev s__law_draw : Stmt := top 24
theorem sc__law_draw : FnScope ["_law_draws", "_law_many"] ["_law_draws", "_law_many"] (defScope s__law_draw) := ⟨rfl, rfl, rfl, by decide +kernel, rfl, by decide +kernel, by decide +kernel⟩
abbrev s__law_glued : Stmt := top 29
theorem sc__law_glued : FnScope ["_law_before", "_law_after", "_law_letters"] ["_law_before", "_law_after"] (defScope s__law_glued) := ⟨rfl, rfl, rfl, by decide +kernel, rfl, by decide +kernel, by decide +kernel⟩
abbrev s__law_big : Stmt := top 25
theorem sc__law_big : FnScope ["_law_draws", "_law_number", "_law_k"] ["_law_draws"] (defScope s__law_big) := ⟨rfl, rfl, rfl, by decide +kernel, rfl, by decide +kernel, by decide +kernel⟩
abbrev s__law_bad : Stmt := top 30
theorem sc__law_bad : FnScope ["_law_draws", "_law_choice", "_law_word_here", "_law_k", "_law_chars"] ["_law_draws"] (defScope s__law_bad) := ⟨rfl, rfl, rfl, by decide +kernel, rfl, by decide +kernel, by decide +kernel⟩
abbrev s__law_word : Stmt := top 27
theorem sc__law_word : FnScope ["_law_draws", "_law_letters", "_law_many", "_law_word_here", "_law_k"] ["_law_draws"] (defScope s__law_word) := ⟨rfl, rfl, rfl, by decide +kernel, rfl, by decide +kernel, by decide +kernel⟩
abbrev s__law_reserved : Stmt := top 26
theorem sc__law_reserved : FnScope ["_law_words"] [] (defScope s__law_reserved) := ⟨rfl, rfl, rfl, by decide +kernel, rfl, by decide +kernel, by decide +kernel⟩
abbrev s__law_token : Stmt := top 28
theorem sc__law_token : FnScope ["_law_draws", "_law_choice", "_law_big_here", "_law_numbers_here"] ["_law_draws"] (defScope s__law_token) := ⟨rfl, rfl, rfl, by decide +kernel, rfl, by decide +kernel, by decide +kernel⟩
abbrev s__law_things : Stmt := top 33
theorem sc__law_things : FnScope ["_law_draws", "_law_menu", "_law_things_here", "_law_k"] ["_law_draws"] (defScope s__law_things) := ⟨rfl, rfl, rfl, by decide +kernel, rfl, by decide +kernel, by decide +kernel⟩
abbrev s_KeptError_init : Stmt := inClass (top 1) 0
theorem sc_KeptError_init : FnScope ["self", "what"] ["self", "what"] (defScope s_KeptError_init) := ⟨rfl, rfl, rfl, by decide +kernel, rfl, by decide +kernel, by decide +kernel⟩
abbrev s_run_of : Stmt := top 17
theorem sc_run_of : FnScope ["text", "place", "chars", "end"] ["text", "place", "chars"] (defScope s_run_of) := ⟨rfl, rfl, rfl, by decide +kernel, rfl, by decide +kernel, by decide +kernel⟩
abbrev s_number_at : Stmt := top 18
theorem sc_number_at : FnScope ["text", "place", "digits"] ["text", "place"] (defScope s_number_at) := ⟨rfl, rfl, rfl, by decide +kernel, rfl, by decide +kernel, by decide +kernel⟩
abbrev s_word_at : Stmt := top 19
theorem sc_word_at : FnScope ["text", "place", "word"] ["text", "place"] (defScope s_word_at) := ⟨rfl, rfl, rfl, by decide +kernel, rfl, by decide +kernel, by decide +kernel⟩
abbrev s_token_at : Stmt := top 20
theorem sc_token_at : FnScope ["text", "place"] ["text", "place"] (defScope s_token_at) := ⟨rfl, rfl, rfl, by decide +kernel, rfl, by decide +kernel, by decide +kernel⟩
abbrev s_tokens : Stmt := top 21
theorem sc_tokens : FnScope ["text", "found", "place", "token"] ["text"] (defScope s_tokens) := ⟨rfl, rfl, rfl, by decide +kernel, rfl, by decide +kernel, by decide +kernel⟩
abbrev s__law_outcome : Stmt := top 31
theorem sc__law_outcome : FnScope ["_law_text", "e"] ["_law_text"] (defScope s__law_outcome) := ⟨rfl, rfl, rfl, by decide +kernel, rfl, by decide +kernel, by decide +kernel⟩
abbrev s__law_family : Stmt := top 32
theorem sc__law_family : FnScope ["_law_text", "_law_word_here", "e"] ["_law_text", "_law_word_here"] (defScope s__law_family) := ⟨rfl, rfl, rfl, by decide +kernel, rfl, by decide +kernel, by decide +kernel⟩
abbrev s_law : Stmt := top 34
theorem sc_law : FnScope ["_law_script", "_law_draws", "_law_text", "_law_before", "_law_expected", "_law_many", "_law_good", "_law_thing", "_law_bad_here", "_law_gap", "_law_told"] ["_law_script"] (defScope s_law) := ⟨rfl, rfl, rfl, by decide +kernel, rfl, by decide +kernel, by decide +kernel⟩
structure Txt (K : PySem.W.Frag) (mg : Str → Option Value) (A : Nat → Addr) (FD : Nat → FuncData) (XA : Nat → Addr) : Prop where
  xm_KeptError : mg "KeptError" = some (.ref (XA 0))
  xm_ScriptError : mg "ScriptError" = some (.ref (XA 1))
  xm_BadToken : mg "BadToken" = some (.ref (XA 2))
  xm_BadSyntax : mg "BadSyntax" = some (.ref (XA 3))
  xm_OverLimit : mg "OverLimit" = some (.ref (XA 4))
  xm_BadUse : mg "BadUse" = some (.ref (XA 5))
  xm_DeepTerm : mg "DeepTerm" = some (.ref (XA 6))
  xm_NoKind : mg "NoKind" = some (.ref (XA 7))
  ez_BadToken : ExcK K mg "BadToken" (XA 2) (A 9)
  ez_OverLimit : ExcK K mg "OverLimit" (XA 4) (A 9)
  xis : XisT K mg ["BadToken", "OverLimit"]
  sub_BadToken : SubsT K mg (.ref (XA 2)) [("BadToken", true), ("OverLimit", false)]
  sub_KeptError : SubsT K mg (.ref (XA 0)) [("BadToken", true), ("OverLimit", true)]
  sub_OverLimit : SubsT K mg (.ref (XA 4)) [("BadToken", false), ("OverLimit", true)]
  kit_BadSyntax : KitsT K mg (.ref (XA 3)) [("BadToken", false), ("OverLimit", false)]
  kit_BadToken : KitsT K mg (.ref (XA 2)) [("BadToken", true), ("OverLimit", false)]
  kit_BadUse : KitsT K mg (.ref (XA 5)) [("BadToken", false), ("OverLimit", false)]
  kit_DeepTerm : KitsT K mg (.ref (XA 6)) [("BadToken", false), ("OverLimit", false)]
  kit_NoKind : KitsT K mg (.ref (XA 7)) [("BadToken", false), ("OverLimit", false)]
  kit_OverLimit : KitsT K mg (.ref (XA 4)) [("BadToken", false), ("OverLimit", true)]
  kit_ScriptError : KitsT K mg (.ref (XA 1)) [("BadToken", true), ("OverLimit", true)]
  kit_ValueError : KitsT K mg (.type "ValueError") [("BadToken", true), ("OverLimit", true)]
  f__law_numbers : mg "_law_numbers" = some (.ref (A 0))
  F__law_numbers : Df K "_law_numbers" "_law_numbers" s__law_numbers (A 0) (FD 0)
  b__law_numbers : Binds K (FD 0) ["_law_script", "_law_many"] []
  f__law_draw : mg "_law_draw" = some (.ref (A 1))
  F__law_draw : Df K "_law_draw" "_law_draw" s__law_draw (A 1) (FD 1)
  b__law_draw : Binds K (FD 1) ["_law_draws", "_law_many"] []
  f__law_glued : mg "_law_glued" = some (.ref (A 2))
  F__law_glued : Df K "_law_glued" "_law_glued" s__law_glued (A 2) (FD 2)
  b__law_glued : Binds K (FD 2) ["_law_before", "_law_after"] []
  f__law_big : mg "_law_big" = some (.ref (A 3))
  F__law_big : Df K "_law_big" "_law_big" s__law_big (A 3) (FD 3)
  b__law_big : Binds K (FD 3) ["_law_draws"] []
  f__law_bad : mg "_law_bad" = some (.ref (A 4))
  F__law_bad : Df K "_law_bad" "_law_bad" s__law_bad (A 4) (FD 4)
  b__law_bad : Binds K (FD 4) ["_law_draws"] []
  f__law_word : mg "_law_word" = some (.ref (A 5))
  F__law_word : Df K "_law_word" "_law_word" s__law_word (A 5) (FD 5)
  b__law_word : Binds K (FD 5) ["_law_draws"] []
  f__law_reserved : mg "_law_reserved" = some (.ref (A 6))
  F__law_reserved : Df K "_law_reserved" "_law_reserved" s__law_reserved (A 6) (FD 6)
  b__law_reserved : Binds K (FD 6) [] []
  f__law_token : mg "_law_token" = some (.ref (A 7))
  F__law_token : Df K "_law_token" "_law_token" s__law_token (A 7) (FD 7)
  b__law_token : Binds K (FD 7) ["_law_draws"] []
  f__law_things : mg "_law_things" = some (.ref (A 8))
  F__law_things : Df K "_law_things" "_law_things" s__law_things (A 8) (FD 8)
  b__law_things : Binds K (FD 8) ["_law_draws"] []
  xti : PySem.W.typeIn K (.ref (A 9)) = some (.type "function")
  vV : PySem.W.findCls K (.type "ValueError") (.type "type") "__init__" = some (.val (.builtin "ValueError.__init__"))
  F_KeptError_init : Df K "__init__" "KeptError.__init__" s_KeptError_init (A 9) (FD 9)
  b_KeptError_init_0 : DB K (FD 9) ["self", "what"] []
  f_run_of : mg "run_of" = some (.ref (A 10))
  F_run_of : Df K "run_of" "run_of" s_run_of (A 10) (FD 10)
  b_run_of : Binds K (FD 10) ["text", "place", "chars"] []
  f_number_at : mg "number_at" = some (.ref (A 11))
  F_number_at : Df K "number_at" "number_at" s_number_at (A 11) (FD 11)
  b_number_at : Binds K (FD 11) ["text", "place"] []
  f_word_at : mg "word_at" = some (.ref (A 12))
  F_word_at : Df K "word_at" "word_at" s_word_at (A 12) (FD 12)
  b_word_at : Binds K (FD 12) ["text", "place"] []
  f_token_at : mg "token_at" = some (.ref (A 13))
  F_token_at : Df K "token_at" "token_at" s_token_at (A 13) (FD 13)
  b_token_at : Binds K (FD 13) ["text", "place"] []
  f_tokens : mg "tokens" = some (.ref (A 14))
  F_tokens : Df K "tokens" "tokens" s_tokens (A 14) (FD 14)
  b_tokens : Binds K (FD 14) ["text"] []
  f__law_outcome : mg "_law_outcome" = some (.ref (A 15))
  F__law_outcome : Df K "_law_outcome" "_law_outcome" s__law_outcome (A 15) (FD 15)
  b__law_outcome : Binds K (FD 15) ["_law_text"] []
  f__law_family : mg "_law_family" = some (.ref (A 16))
  F__law_family : Df K "_law_family" "_law_family" s__law_family (A 16) (FD 16)
  b__law_family : Binds K (FD 16) ["_law_text", "_law_word_here"] []
  F_law : Df K "law" "law" s_law (A 17) (FD 17)
  g_DIGITS : ∃ t, mg "DIGITS" = some (.str "0123456789" t)
  g_DOUBLE_SIGNS : ∃ u, mg "DOUBLE_SIGNS" = some u ∧ WR K (.tup [.str "==", .str "<="]) u
  g_LETTERS : ∃ t, mg "LETTERS" = some (.str "abcdefghijklmnopqrstuvwxyz" t)
  g_MOST : ∃ t, mg "MOST" = some (.int 1000000000000000 t)
  g_MOST_LETTERS : ∃ t, mg "MOST_LETTERS" = some (.int 12 t)
  g_MOST_TOKENS : ∃ t, mg "MOST_TOKENS" = some (.int 200 t)
  g_SIGNS : ∃ t, mg "SIGNS" = some (.str "<=+-*()[],;" t)
  n_ValueError : mg "ValueError" = none
  n_abs : mg "abs" = none
  n_bool : mg "bool" = none
  n_int : mg "int" = none
  n_isinstance : mg "isinstance" = none
  n_len : mg "len" = none
  n_range : mg "range" = none
  n_str : mg "str" = none
section
variable {P : Program} {w : World} {K : PySem.W.Frag} {mg : Str → Option Value} {base : Heap} {A : Nat → Addr} {FD : Nat → FuncData} {XA : Nat → Addr}
theorem ok__law_numbers (T : Txt K mg A FD XA) : FnOk P w K mg base (L2.CX P w) 1 (A 0) (FD 0) ["_law_script", "_law_many"] (spD ⟨K, P, w, mg⟩ 2 (f__law_numbers)) := by
  refine fn_okD (N := ["_law_script", "_law_many", "_law_numbers_here", "_law_seed", "_law_cell", "_law_rest", "_law_turn", "_law_k", "_law_mixed"]) (ps := ["_law_script", "_law_many"]) (k := 0) (den := d__law_numbers) T.F__law_numbers sc__law_numbers fun cdv Ar outer s H E hr => ?_
  have nd := sc__law_numbers.nd
  have hu := hr.units
  have hu1 : (Ar.deeper (envOfC "_law_numbers" (defScope s__law_numbers) s.heap.objs.size (A 0) cdv)).units + 65 < cLine := by have := hr.un; omega
  have hu2 : (Ar.deeper (envOfC "_law_numbers" (defScope s__law_numbers) s.heap.objs.size (A 0) cdv)).units + 1 < cLine := by omega
  have tk : Takes (cxOf (L2.CX P w) P w K mg base ["_law_script", "_law_many", "_law_numbers_here", "_law_seed", "_law_cell", "_law_rest", "_law_turn", "_law_k", "_law_mixed"] "_law_numbers" (defScope s__law_numbers) (A 0) cdv Ar outer s H E) (fun cls d _ H => E cls d H) := takes_of rfl rfl rfl rfl
  have po : PassesOwn (model P w) (Ar.deeper (envOfC "_law_numbers" (defScope s__law_numbers) s.heap.objs.size (A 0) cdv)) (cxOf (L2.CX P w) P w K mg base ["_law_script", "_law_many", "_law_numbers_here", "_law_seed", "_law_cell", "_law_rest", "_law_turn", "_law_k", "_law_mixed"] "_law_numbers" (defScope s__law_numbers) (A 0) cdv Ar outer s H E).env (cxOf (L2.CX P w) P w K mg base ["_law_script", "_law_many", "_law_numbers_here", "_law_seed", "_law_cell", "_law_rest", "_law_turn", "_law_k", "_law_mixed"] "_law_numbers" (defScope s__law_numbers) (A 0) cdv Ar outer s H E).xe := passes_of rfl
  exact (dss_cons (ds_set (i := 2) nd rfl (.inl rfl) (de_lst da_nil)) (dss_cons (ds_set (i := 3) nd rfl (.inl rfl) di_int.e) (dss_cons (ds_for po rfl (de_var (pv 0)) (dg_name (i := 4) nd rfl (.inl rfl)) (dss_cons (ds_set (i := 5) nd rfl (.inl rfl) (di_callBV call_abs ok_abs (by rfl) T.n_abs (by decide +kernel) (dv_cons (de_var (pv 4)).v dv_nil)).e) (dss_cons (ds_set (i := 3) nd rfl (.inl rfl) (di_mod (di_callTV call_int1 ok_int (by rfl) T.n_int (by decide +kernel) (dv_cons (di_add (di_add (di_mul (de_var (pv 3)).i di_int) (di_mul (de_var (pv 5)).i di_int)) di_int).v dv_nil)) di_int).e) (dss_one (ds_if (dt_cmp op_ge ok_ge (de_var (pv 5)).v (di_pow di_int di_int).v (nomark _)) (dss_one (ds_forP po rfl (dpi_range1 (by rfl) T.n_range (da_cons di_int da_nil)) (dg_name (i := 6) nd rfl (.inl rfl)) (dss_one (ds_if (dt_cmp op_ge ok_ge (de_var (pv 5)).v di_int.v (nomark _)) (dss_cons (ds_app (i := 2) (pv 2) (di_mod (di_callTV call_int1 ok_int (by rfl) T.n_int (by decide +kernel) (dv_cons (de_var (pv 5)).v dv_nil)) di_int).e (fun h => pe_bm PySem.F.plainAttrs_list PySem.F.slot_list_append PySem.F.type_list_append mt_append (pv 2) h)) (dss_one (ds_set (i := 5) nd rfl (.inl rfl) (di_div (de_var (pv 5)).i di_int).e))) dss_nil)))) dss_nil))))) (dss_cons (ds_set (i := 2) nd rfl (.inl rfl) (de_slice (de_var (pv 2)).o dp_none (dp_some (de_var (pv 1)).i))) (dss_cons (ds_forP po rfl (dpi_range1 (by rfl) T.n_range (da_cons (di_sub (de_var (pv 1)).i (di_callBV call_len ok_len (by rfl) T.n_len (by decide +kernel) (dv_cons (de_var (pv 2)).v dv_nil))) da_nil)) (dg_name (i := 7) nd rfl (.inl rfl)) (dss_cons (ds_set (i := 8) nd rfl (.inl rfl) (di_mod (di_callTV call_int1 ok_int (by rfl) T.n_int (by decide +kernel) (dv_cons (di_add (di_add (di_mul (de_var (pv 3)).i di_int) (di_mul (de_var (pv 7)).i di_int)) di_int).v dv_nil)) di_int).e) (dss_cons (ds_set (i := 8) nd rfl (.inl rfl) (di_mod (di_callTV call_int1 ok_int (by rfl) T.n_int (by decide +kernel) (dv_cons (di_add (di_add (di_mul (de_var (pv 8)).i (de_var (pv 8)).i) (di_mul di_int (de_var (pv 7)).i)) di_int).v dv_nil)) di_int).e) (dss_one (ds_app (i := 2) (pv 2) (di_mod (di_callTV call_int1 ok_int (by rfl) T.n_int (by decide +kernel) (dv_cons (di_div (de_var (pv 8)).i di_int).v dv_nil)) di_int).e (fun h => pe_bm PySem.F.plainAttrs_list PySem.F.slot_list_append PySem.F.type_list_append mt_append (pv 2) h)))))) (dss_one (ds_ret (de_rev (de_var (pv 2)).o pe_revL))))))))
theorem ok__law_draw (T : Txt K mg A FD XA) : FnOk P w K mg base (L2.CX P w) 1 (A 1) (FD 1) ["_law_draws", "_law_many"] (spD ⟨K, P, w, mg⟩ 2 (f__law_draw)) := by
  refine fn_okD (N := ["_law_draws", "_law_many"]) (ps := ["_law_draws", "_law_many"]) (k := 0) (den := d__law_draw) T.F__law_draw sc__law_draw fun cdv Ar outer s H E hr => ?_
  have nd := sc__law_draw.nd
  have hu := hr.units
  have hu1 : (Ar.deeper (envOfC "_law_draw" (defScope s__law_draw) s.heap.objs.size (A 1) cdv)).units + 65 < cLine := by have := hr.un; omega
  have hu2 : (Ar.deeper (envOfC "_law_draw" (defScope s__law_draw) s.heap.objs.size (A 1) cdv)).units + 1 < cLine := by omega
  have tk : Takes (cxOf (L2.CX P w) P w K mg base ["_law_draws", "_law_many"] "_law_draw" (defScope s__law_draw) (A 1) cdv Ar outer s H E) (fun cls d _ H => E cls d H) := takes_of rfl rfl rfl rfl
  have po : PassesOwn (model P w) (Ar.deeper (envOfC "_law_draw" (defScope s__law_draw) s.heap.objs.size (A 1) cdv)) (cxOf (L2.CX P w) P w K mg base ["_law_draws", "_law_many"] "_law_draw" (defScope s__law_draw) (A 1) cdv Ar outer s H E).env (cxOf (L2.CX P w) P w K mg base ["_law_draws", "_law_many"] "_law_draw" (defScope s__law_draw) (A 1) cdv Ar outer s H E).xe := passes_of rfl
  exact (dss_cons (ds_if (dt_cmp (op_eqD hu) ok_eq (di_callBV call_len ok_len (by rfl) T.n_len (by decide +kernel) (dv_cons (de_var (pv 0)).v dv_nil)).v di_int.v (nomark _)) (dss_one (ds_ret di_int.e)) dss_nil) (dss_one (ds_ret (di_mod (di_callTV call_int1 ok_int (by rfl) T.n_int (by decide +kernel) (dv_cons (de_pop (i := 0) (pe_bm0 PySem.F.plainAttrs_list PySem.F.slot_list_pop PySem.F.type_list_pop mt_pop (pv 0))).v dv_nil)) (de_var (pv 1)).i).e)))
theorem ok__law_glued (T : Txt K mg A FD XA) : FnOk P w K mg base (L2.CX P w) 1 (A 2) (FD 2) ["_law_before", "_law_after"] (spD ⟨K, P, w, mg⟩ 2 (f__law_glued)) := by
  refine fn_okD (N := ["_law_before", "_law_after", "_law_letters"]) (ps := ["_law_before", "_law_after"]) (k := 0) (den := d__law_glued) T.F__law_glued sc__law_glued fun cdv Ar outer s H E hr => ?_
  have nd := sc__law_glued.nd
  have hu := hr.units
  have hu1 : (Ar.deeper (envOfC "_law_glued" (defScope s__law_glued) s.heap.objs.size (A 2) cdv)).units + 65 < cLine := by have := hr.un; omega
  have hu2 : (Ar.deeper (envOfC "_law_glued" (defScope s__law_glued) s.heap.objs.size (A 2) cdv)).units + 1 < cLine := by omega
  have tk : Takes (cxOf (L2.CX P w) P w K mg base ["_law_before", "_law_after", "_law_letters"] "_law_glued" (defScope s__law_glued) (A 2) cdv Ar outer s H E) (fun cls d _ H => E cls d H) := takes_of rfl rfl rfl rfl
  have po : PassesOwn (model P w) (Ar.deeper (envOfC "_law_glued" (defScope s__law_glued) s.heap.objs.size (A 2) cdv)) (cxOf (L2.CX P w) P w K mg base ["_law_before", "_law_after", "_law_letters"] "_law_glued" (defScope s__law_glued) (A 2) cdv Ar outer s H E).env (cxOf (L2.CX P w) P w K mg base ["_law_before", "_law_after", "_law_letters"] "_law_glued" (defScope s__law_glued) (A 2) cdv Ar outer s H E).xe := passes_of rfl
  exact (dss_cons (ds_set (i := 2) nd rfl (.inl rfl) di_str.e) (dss_cons (ds_if (dt_cmp (op_in3 hu1) ok_in (do_ix (de_var (pv 0)).o di_int).v di_str.v (by rfl)) (dss_one (ds_ret (di_cmp (op_in3 hu1) ok_in (do_ix (de_var (pv 1)).o di_int).v di_str.v (by rfl)).e)) dss_nil) (dss_cons (ds_if (dt_cmp (op_in3 hu1) ok_in (do_ix (de_var (pv 0)).o di_int).v (de_var (pv 2)).v (by rfl)) (dss_one (ds_ret (di_cmp (op_in3 hu1) ok_in (do_ix (de_var (pv 1)).o di_int).v (de_var (pv 2)).v (by rfl)).e)) dss_nil) (dss_one (ds_ret (di_and (di_or (di_cmp (op_eqD hu) ok_eq (de_var (pv 0)).v di_str.v (nomark _)) (di_one (di_cmp (op_eqD hu) ok_eq (de_var (pv 0)).v di_str.v (nomark _)))) (di_one (di_cmp (op_eqD hu) ok_eq (do_ix (de_var (pv 1)).o di_int).v di_str.v (nomark _)))).e)))))
theorem ok__law_big (T : Txt K mg A FD XA) : FnOk P w K mg base (L2.CX P w) 2 (A 3) (FD 3) ["_law_draws"] (spD ⟨K, P, w, mg⟩ 1 (f__law_big)) := by
  have G__law_draw : FnOk P w K mg base (L2.CX P w) 1 (A 1) (FD 1) ["_law_draws", "_law_many"] (spD ⟨K, P, w, mg⟩ 2 (f__law_draw)) := ok__law_draw T
  obtain ⟨dl__law_draw_0, dv__law_draw_0, hb__law_draw_0, hd__law_draw_0, hdd__law_draw_0, hl__law_draw_0⟩ := db0 T.b__law_draw
  refine fn_okD (N := ["_law_draws", "_law_number", "_law_k"]) (ps := ["_law_draws"]) (k := 1) (den := d__law_big) T.F__law_big sc__law_big fun cdv Ar outer s H E hr => ?_
  have nd := sc__law_big.nd
  have hu := hr.units
  have hu1 : (Ar.deeper (envOfC "_law_big" (defScope s__law_big) s.heap.objs.size (A 3) cdv)).units + 65 < cLine := by have := hr.un; omega
  have hu2 : (Ar.deeper (envOfC "_law_big" (defScope s__law_big) s.heap.objs.size (A 3) cdv)).units + 1 < cLine := by omega
  have tk : Takes (cxOf (L2.CX P w) P w K mg base ["_law_draws", "_law_number", "_law_k"] "_law_big" (defScope s__law_big) (A 3) cdv Ar outer s H E) (fun cls d _ H => E cls d H) := takes_of rfl rfl rfl rfl
  have po : PassesOwn (model P w) (Ar.deeper (envOfC "_law_big" (defScope s__law_big) s.heap.objs.size (A 3) cdv)) (cxOf (L2.CX P w) P w K mg base ["_law_draws", "_law_number", "_law_k"] "_law_big" (defScope s__law_big) (A 3) cdv Ar outer s H E).env (cxOf (L2.CX P w) P w K mg base ["_law_draws", "_law_number", "_law_k"] "_law_big" (defScope s__law_big) (A 3) cdv Ar outer s H E).xe := passes_of rfl
  exact (dss_cons (ds_set (i := 1) nd rfl (.inl rfl) di_int.e) (dss_cons (ds_forP po rfl (dpi_range1 (by rfl) T.n_range (da_cons di_int da_nil)) (dg_name (i := 2) nd rfl (.inl rfl)) (dss_one (ds_set (i := 1) nd rfl (.inl rfl) (di_add (di_mul (de_var (pv 1)).i di_int) (de_call G__law_draw tk (hr.mono (by decide)) (by rfl) T.f__law_draw T.F__law_draw.kp T.b__law_draw (dar_cons (de_var (pv 0)) (dar_cons di_int.e dar_nil))).i).e))) (dss_one (ds_ret (de_var (pv 1))))))
theorem ok__law_bad (T : Txt K mg A FD XA) : FnOk P w K mg base (L2.CX P w) 3 (A 4) (FD 4) ["_law_draws"] (spD ⟨K, P, w, mg⟩ 1 (f__law_bad)) := by
  have G__law_draw : FnOk P w K mg base (L2.CX P w) 1 (A 1) (FD 1) ["_law_draws", "_law_many"] (spD ⟨K, P, w, mg⟩ 2 (f__law_draw)) := ok__law_draw T
  have G__law_big : FnOk P w K mg base (L2.CX P w) 2 (A 3) (FD 3) ["_law_draws"] (spD ⟨K, P, w, mg⟩ 1 (f__law_big)) := ok__law_big T
  obtain ⟨dl__law_big_0, dv__law_big_0, hb__law_big_0, hd__law_big_0, hdd__law_big_0, hl__law_big_0⟩ := db0 T.b__law_big
  obtain ⟨dl__law_draw_0, dv__law_draw_0, hb__law_draw_0, hd__law_draw_0, hdd__law_draw_0, hl__law_draw_0⟩ := db0 T.b__law_draw
  refine fn_okD (N := ["_law_draws", "_law_choice", "_law_word_here", "_law_k", "_law_chars"]) (ps := ["_law_draws"]) (k := 2) (den := d__law_bad) T.F__law_bad sc__law_bad fun cdv Ar outer s H E hr => ?_
  have nd := sc__law_bad.nd
  have hu := hr.units
  have hu1 : (Ar.deeper (envOfC "_law_bad" (defScope s__law_bad) s.heap.objs.size (A 4) cdv)).units + 65 < cLine := by have := hr.un; omega
  have hu2 : (Ar.deeper (envOfC "_law_bad" (defScope s__law_bad) s.heap.objs.size (A 4) cdv)).units + 1 < cLine := by omega
  have tk : Takes (cxOf (L2.CX P w) P w K mg base ["_law_draws", "_law_choice", "_law_word_here", "_law_k", "_law_chars"] "_law_bad" (defScope s__law_bad) (A 4) cdv Ar outer s H E) (fun cls d _ H => E cls d H) := takes_of rfl rfl rfl rfl
  have po : PassesOwn (model P w) (Ar.deeper (envOfC "_law_bad" (defScope s__law_bad) s.heap.objs.size (A 4) cdv)) (cxOf (L2.CX P w) P w K mg base ["_law_draws", "_law_choice", "_law_word_here", "_law_k", "_law_chars"] "_law_bad" (defScope s__law_bad) (A 4) cdv Ar outer s H E).env (cxOf (L2.CX P w) P w K mg base ["_law_draws", "_law_choice", "_law_word_here", "_law_k", "_law_chars"] "_law_bad" (defScope s__law_bad) (A 4) cdv Ar outer s H E).xe := passes_of rfl
  exact (dss_cons (ds_set (i := 1) nd rfl (.inl rfl) (de_call G__law_draw tk (hr.mono (by decide)) (by rfl) T.f__law_draw T.F__law_draw.kp T.b__law_draw (dar_cons (de_var (pv 0)) (dar_cons di_int.e dar_nil))).i.e) (dss_cons (ds_if (dt_cmp (op_eqD hu) ok_eq (de_var (pv 1)).v di_int.v (nomark _)) (dss_one (ds_ret (di_add di_str (di_callTV call_str_int ok_str (by rfl) T.n_str (by decide +kernel) (dv_cons (de_call G__law_draw tk (hr.mono (by decide)) (by rfl) T.f__law_draw T.F__law_draw.kp T.b__law_draw (dar_cons (de_var (pv 0)) (dar_cons di_int.e dar_nil))).v dv_nil))).e)) dss_nil) (dss_cons (ds_if (dt_cmp (op_eqD hu) ok_eq (de_var (pv 1)).v di_int.v (nomark _)) (dss_one (ds_ret (di_callTV call_str_int ok_str (by rfl) T.n_str (by decide +kernel) (dv_cons (di_add (di_add (di_pow di_int di_int) di_int) (di_ixI (de_lst (da_cons di_int (da_cons (de_call G__law_big tk (hr.mono (by decide)) (by rfl) T.f__law_big T.F__law_big.kp T.b__law_big (dar_cons (de_var (pv 0)) dar_nil)).i da_nil))).i (de_call G__law_draw tk (hr.mono (by decide)) (by rfl) T.f__law_draw T.F__law_draw.kp T.b__law_draw (dar_cons (de_var (pv 0)) (dar_cons di_int.e dar_nil))).i)).v dv_nil)).e)) dss_nil) (dss_cons (ds_if (dt_cmp (op_eqD hu) ok_eq (de_var (pv 1)).v di_int.v (nomark _)) (dss_one (ds_ret (di_callTV call_str_int ok_str (by rfl) T.n_str (by decide +kernel) (dv_cons (di_add (di_pow di_int di_int) (de_call G__law_big tk (hr.mono (by decide)) (by rfl) T.f__law_big T.F__law_big.kp T.b__law_big (dar_cons (de_var (pv 0)) dar_nil)).i).v dv_nil)).e)) dss_nil) (dss_cons (ds_if (dt_cmp (op_eqD hu) ok_eq (de_var (pv 1)).v di_int.v (nomark _)) (dss_cons (ds_set (i := 2) nd rfl (.inl rfl) di_str.e) (dss_cons (ds_forP po rfl (dpi_range1 (by rfl) T.n_range (da_cons (de_call G__law_draw tk (hr.mono (by decide)) (by rfl) T.f__law_draw T.F__law_draw.kp T.b__law_draw (dar_cons (de_var (pv 0)) (dar_cons di_int.e dar_nil))).i da_nil)) (dg_name (i := 3) nd rfl (.inl rfl)) (dss_one (ds_set (i := 2) nd rfl (.inl rfl) (di_add (de_var (pv 2)).i (di_ixI di_str (de_call G__law_draw tk (hr.mono (by decide)) (by rfl) T.f__law_draw T.F__law_draw.kp T.b__law_draw (dar_cons (de_var (pv 0)) (dar_cons di_int.e dar_nil))).i)).e))) (dss_one (ds_ret (de_var (pv 2)))))) dss_nil) (dss_cons (ds_if (dt_cmp (op_eqD hu) ok_eq (de_var (pv 1)).v di_int.v (nomark _)) (dss_one (ds_ret (di_ixI di_str (de_call G__law_draw tk (hr.mono (by decide)) (by rfl) T.f__law_draw T.F__law_draw.kp T.b__law_draw (dar_cons (de_var (pv 0)) (dar_cons di_int.e dar_nil))).i).e)) dss_nil) (dss_cons (ds_set (i := 4) nd rfl (.inl rfl) di_str.e) (dss_one (ds_ret (di_ixI (de_var (pv 4)).i (di_mod (di_callTV call_int1 ok_int (by rfl) T.n_int (by decide +kernel) (dv_cons (de_call G__law_draw tk (hr.mono (by decide)) (by rfl) T.f__law_draw T.F__law_draw.kp T.b__law_draw (dar_cons (de_var (pv 0)) (dar_cons di_int.e dar_nil))).v dv_nil)) (di_callBV call_len ok_len (by rfl) T.n_len (by decide +kernel) (dv_cons (de_var (pv 4)).v dv_nil)))).e)))))))))
theorem ok__law_word (T : Txt K mg A FD XA) : FnOk P w K mg base (L2.CX P w) 2 (A 5) (FD 5) ["_law_draws"] (spD ⟨K, P, w, mg⟩ 1 (f__law_word)) := by
  have G__law_draw : FnOk P w K mg base (L2.CX P w) 1 (A 1) (FD 1) ["_law_draws", "_law_many"] (spD ⟨K, P, w, mg⟩ 2 (f__law_draw)) := ok__law_draw T
  obtain ⟨dl__law_draw_0, dv__law_draw_0, hb__law_draw_0, hd__law_draw_0, hdd__law_draw_0, hl__law_draw_0⟩ := db0 T.b__law_draw
  refine fn_okD (N := ["_law_draws", "_law_letters", "_law_many", "_law_word_here", "_law_k"]) (ps := ["_law_draws"]) (k := 1) (den := d__law_word) T.F__law_word sc__law_word fun cdv Ar outer s H E hr => ?_
  have nd := sc__law_word.nd
  have hu := hr.units
  have hu1 : (Ar.deeper (envOfC "_law_word" (defScope s__law_word) s.heap.objs.size (A 5) cdv)).units + 65 < cLine := by have := hr.un; omega
  have hu2 : (Ar.deeper (envOfC "_law_word" (defScope s__law_word) s.heap.objs.size (A 5) cdv)).units + 1 < cLine := by omega
  have tk : Takes (cxOf (L2.CX P w) P w K mg base ["_law_draws", "_law_letters", "_law_many", "_law_word_here", "_law_k"] "_law_word" (defScope s__law_word) (A 5) cdv Ar outer s H E) (fun cls d _ H => E cls d H) := takes_of rfl rfl rfl rfl
  have po : PassesOwn (model P w) (Ar.deeper (envOfC "_law_word" (defScope s__law_word) s.heap.objs.size (A 5) cdv)) (cxOf (L2.CX P w) P w K mg base ["_law_draws", "_law_letters", "_law_many", "_law_word_here", "_law_k"] "_law_word" (defScope s__law_word) (A 5) cdv Ar outer s H E).env (cxOf (L2.CX P w) P w K mg base ["_law_draws", "_law_letters", "_law_many", "_law_word_here", "_law_k"] "_law_word" (defScope s__law_word) (A 5) cdv Ar outer s H E).xe := passes_of rfl
  exact (dss_cons (ds_set (i := 1) nd rfl (.inl rfl) di_str.e) (dss_cons (ds_set (i := 2) nd rfl (.inl rfl) (di_ixI (de_lst (da_cons di_int (da_cons di_int (da_cons di_int (da_cons di_int (da_cons di_int (da_cons (di_add di_int (de_call G__law_draw tk (hr.mono (by decide)) (by rfl) T.f__law_draw T.F__law_draw.kp T.b__law_draw (dar_cons (de_var (pv 0)) (dar_cons di_int.e dar_nil))).i) da_nil))))))).i (de_call G__law_draw tk (hr.mono (by decide)) (by rfl) T.f__law_draw T.F__law_draw.kp T.b__law_draw (dar_cons (de_var (pv 0)) (dar_cons di_int.e dar_nil))).i).e) (dss_cons (ds_set (i := 3) nd rfl (.inl rfl) di_str.e) (dss_cons (ds_forP po rfl (dpi_range1 (by rfl) T.n_range (da_cons (de_var (pv 2)).i da_nil)) (dg_name (i := 4) nd rfl (.inl rfl)) (dss_one (ds_set (i := 3) nd rfl (.inl rfl) (di_add (de_var (pv 3)).i (di_ixI (de_var (pv 1)).i (de_call G__law_draw tk (hr.mono (by decide)) (by rfl) T.f__law_draw T.F__law_draw.kp T.b__law_draw (dar_cons (de_var (pv 0)) (dar_cons di_int.e dar_nil))).i)).e))) (dss_one (ds_ret (de_var (pv 3))))))))
theorem ok__law_reserved (T : Txt K mg A FD XA) : FnOk P w K mg base (L2.CX P w) 1 (A 6) (FD 6) [] (spD ⟨K, P, w, mg⟩ 0 (f__law_reserved)) := by
  refine fn_okD (N := ["_law_words"]) (ps := []) (k := 0) (den := d__law_reserved) T.F__law_reserved sc__law_reserved fun cdv Ar outer s H E hr => ?_
  have nd := sc__law_reserved.nd
  have hu := hr.units
  have hu1 : (Ar.deeper (envOfC "_law_reserved" (defScope s__law_reserved) s.heap.objs.size (A 6) cdv)).units + 65 < cLine := by have := hr.un; omega
  have hu2 : (Ar.deeper (envOfC "_law_reserved" (defScope s__law_reserved) s.heap.objs.size (A 6) cdv)).units + 1 < cLine := by omega
  have tk : Takes (cxOf (L2.CX P w) P w K mg base ["_law_words"] "_law_reserved" (defScope s__law_reserved) (A 6) cdv Ar outer s H E) (fun cls d _ H => E cls d H) := takes_of rfl rfl rfl rfl
  have po : PassesOwn (model P w) (Ar.deeper (envOfC "_law_reserved" (defScope s__law_reserved) s.heap.objs.size (A 6) cdv)) (cxOf (L2.CX P w) P w K mg base ["_law_words"] "_law_reserved" (defScope s__law_reserved) (A 6) cdv Ar outer s H E).env (cxOf (L2.CX P w) P w K mg base ["_law_words"] "_law_reserved" (defScope s__law_reserved) (A 6) cdv Ar outer s H E).xe := passes_of rfl
  exact (dss_cons (ds_set (i := 0) nd rfl (.inl rfl) (de_lst (da_cons di_str (da_cons di_str (da_cons di_str (da_cons di_str (da_cons di_str (da_cons di_str (da_cons di_str (da_cons di_str (da_cons di_str (da_cons di_str da_nil))))))))))).i.e) (dss_cons (ds_set (i := 0) nd rfl (.inl rfl) (de_cat (de_var (pv 0)).o (de_lst (da_cons di_str (da_cons di_str (da_cons di_str (da_cons di_str (da_cons di_str (da_cons di_str (da_cons di_str (da_cons di_str (da_cons di_str (da_cons di_str (da_cons di_str da_nil)))))))))))).o (pe_op op_cat)).i.e) (dss_cons (ds_set (i := 0) nd rfl (.inl rfl) (de_cat (de_var (pv 0)).o (de_lst (da_cons di_str (da_cons di_str (da_cons di_str (da_cons di_str (da_cons di_str (da_cons di_str (da_cons di_str (da_cons di_str (da_cons di_str (da_cons di_str (da_cons di_str (da_cons di_str da_nil))))))))))))).o (pe_op op_cat)).i.e) (dss_one (ds_ret (de_cat (de_var (pv 0)).o (de_lst (da_cons di_str (da_cons di_str (da_cons di_str (da_cons di_str (da_cons di_str (da_cons di_str (da_cons di_str (da_cons di_str (da_cons di_str da_nil)))))))))).o (pe_op op_cat)))))))
theorem ok__law_token (T : Txt K mg A FD XA) : FnOk P w K mg base (L2.CX P w) 3 (A 7) (FD 7) ["_law_draws"] (spD ⟨K, P, w, mg⟩ 1 (f__law_token)) := by
  have G__law_draw : FnOk P w K mg base (L2.CX P w) 1 (A 1) (FD 1) ["_law_draws", "_law_many"] (spD ⟨K, P, w, mg⟩ 2 (f__law_draw)) := ok__law_draw T
  have G__law_big : FnOk P w K mg base (L2.CX P w) 2 (A 3) (FD 3) ["_law_draws"] (spD ⟨K, P, w, mg⟩ 1 (f__law_big)) := ok__law_big T
  have G__law_word : FnOk P w K mg base (L2.CX P w) 2 (A 5) (FD 5) ["_law_draws"] (spD ⟨K, P, w, mg⟩ 1 (f__law_word)) := ok__law_word T
  have G__law_reserved : FnOk P w K mg base (L2.CX P w) 1 (A 6) (FD 6) [] (spD ⟨K, P, w, mg⟩ 0 (f__law_reserved)) := ok__law_reserved T
  obtain ⟨dl__law_big_0, dv__law_big_0, hb__law_big_0, hd__law_big_0, hdd__law_big_0, hl__law_big_0⟩ := db0 T.b__law_big
  obtain ⟨dl__law_draw_0, dv__law_draw_0, hb__law_draw_0, hd__law_draw_0, hdd__law_draw_0, hl__law_draw_0⟩ := db0 T.b__law_draw
  obtain ⟨dl__law_reserved_0, dv__law_reserved_0, hb__law_reserved_0, hd__law_reserved_0, hdd__law_reserved_0, hl__law_reserved_0⟩ := db0 T.b__law_reserved
  obtain ⟨dl__law_word_0, dv__law_word_0, hb__law_word_0, hd__law_word_0, hdd__law_word_0, hl__law_word_0⟩ := db0 T.b__law_word
  refine fn_okD (N := ["_law_draws", "_law_choice", "_law_big_here", "_law_numbers_here"]) (ps := ["_law_draws"]) (k := 2) (den := d__law_token) T.F__law_token sc__law_token fun cdv Ar outer s H E hr => ?_
  have nd := sc__law_token.nd
  have hu := hr.units
  have hu1 : (Ar.deeper (envOfC "_law_token" (defScope s__law_token) s.heap.objs.size (A 7) cdv)).units + 65 < cLine := by have := hr.un; omega
  have hu2 : (Ar.deeper (envOfC "_law_token" (defScope s__law_token) s.heap.objs.size (A 7) cdv)).units + 1 < cLine := by omega
  have tk : Takes (cxOf (L2.CX P w) P w K mg base ["_law_draws", "_law_choice", "_law_big_here", "_law_numbers_here"] "_law_token" (defScope s__law_token) (A 7) cdv Ar outer s H E) (fun cls d _ H => E cls d H) := takes_of rfl rfl rfl rfl
  have po : PassesOwn (model P w) (Ar.deeper (envOfC "_law_token" (defScope s__law_token) s.heap.objs.size (A 7) cdv)) (cxOf (L2.CX P w) P w K mg base ["_law_draws", "_law_choice", "_law_big_here", "_law_numbers_here"] "_law_token" (defScope s__law_token) (A 7) cdv Ar outer s H E).env (cxOf (L2.CX P w) P w K mg base ["_law_draws", "_law_choice", "_law_big_here", "_law_numbers_here"] "_law_token" (defScope s__law_token) (A 7) cdv Ar outer s H E).xe := passes_of rfl
  exact (dss_cons (ds_set (i := 1) nd rfl (.inl rfl) (de_call G__law_draw tk (hr.mono (by decide)) (by rfl) T.f__law_draw T.F__law_draw.kp T.b__law_draw (dar_cons (de_var (pv 0)) (dar_cons di_int.e dar_nil))).i.e) (dss_cons (ds_if (dt_cmp (op_eqD hu) ok_eq (de_var (pv 1)).v di_int.v (nomark _)) (dss_cons (ds_set (i := 2) nd rfl (.inl rfl) (de_call G__law_big tk (hr.mono (by decide)) (by rfl) T.f__law_big T.F__law_big.kp T.b__law_big (dar_cons (de_var (pv 0)) dar_nil)).i.e) (dss_cons (ds_set (i := 3) nd rfl (.inl rfl) (de_lst (da_cons di_int (da_cons di_int (da_cons di_int (da_cons (di_mod (di_callTV call_int1 ok_int (by rfl) T.n_int (by decide +kernel) (dv_cons (de_var (pv 2)).v dv_nil)) di_int) (da_cons (di_mod (di_callTV call_int1 ok_int (by rfl) T.n_int (by decide +kernel) (dv_cons (de_var (pv 2)).v dv_nil)) di_int) (da_cons (di_pow di_int di_int) (da_cons (di_sub (di_pow di_int di_int) di_int) (da_cons (di_mod (di_callTV call_int1 ok_int (by rfl) T.n_int (by decide +kernel) (dv_cons (de_var (pv 2)).v dv_nil)) (di_add (di_pow di_int di_int) di_int)) da_nil))))))))).i.e) (dss_one (ds_ret (di_callTV call_str_int ok_str (by rfl) T.n_str (by decide +kernel) (dv_cons (di_ixI (de_var (pv 3)).i (de_call G__law_draw tk (hr.mono (by decide)) (by rfl) T.f__law_draw T.F__law_draw.kp T.b__law_draw (dar_cons (de_var (pv 0)) (dar_cons di_int.e dar_nil))).i).v dv_nil)).e)))) dss_nil) (dss_cons (ds_if (dt_cmp (op_eqD hu) ok_eq (de_var (pv 1)).v di_int.v (nomark _)) (dss_one (ds_ret (de_call G__law_word tk (hr.mono (by decide)) (by rfl) T.f__law_word T.F__law_word.kp T.b__law_word (dar_cons (de_var (pv 0)) dar_nil)))) dss_nil) (dss_cons (ds_if (dt_cmp (op_eqD hu) ok_eq (de_var (pv 1)).v di_int.v (nomark _)) (dss_one (ds_ret (di_ixI (de_call0 G__law_reserved tk (hr.mono (by decide)) (by rfl) T.f__law_reserved T.F__law_reserved.kp hb__law_reserved_0 hd__law_reserved_0 (hdd__law_reserved_0 _ rfl)).i (de_call G__law_draw tk (hr.mono (by decide)) (by rfl) T.f__law_draw T.F__law_draw.kp T.b__law_draw (dar_cons (de_var (pv 0)) (dar_cons di_int.e dar_nil))).i).e)) dss_nil) (dss_one (ds_ret (di_ixI (de_lst (da_cons di_str (da_cons di_str (da_cons di_str (da_cons di_str (da_cons di_str (da_cons di_str (da_cons di_str (da_cons di_str (da_cons di_str (da_cons di_str (da_cons di_str (da_cons di_str (da_cons di_str da_nil)))))))))))))).i (de_call G__law_draw tk (hr.mono (by decide)) (by rfl) T.f__law_draw T.F__law_draw.kp T.b__law_draw (dar_cons (de_var (pv 0)) (dar_cons di_int.e dar_nil))).i).e))))))
theorem ok__law_things (T : Txt K mg A FD XA) : FnOk P w K mg base (L2.CX P w) 4 (A 8) (FD 8) ["_law_draws"] (spD ⟨K, P, w, mg⟩ 1 (f__law_things)) := by
  have G__law_draw : FnOk P w K mg base (L2.CX P w) 1 (A 1) (FD 1) ["_law_draws", "_law_many"] (spD ⟨K, P, w, mg⟩ 2 (f__law_draw)) := ok__law_draw T
  have G__law_bad : FnOk P w K mg base (L2.CX P w) 3 (A 4) (FD 4) ["_law_draws"] (spD ⟨K, P, w, mg⟩ 1 (f__law_bad)) := ok__law_bad T
  have G__law_token : FnOk P w K mg base (L2.CX P w) 3 (A 7) (FD 7) ["_law_draws"] (spD ⟨K, P, w, mg⟩ 1 (f__law_token)) := ok__law_token T
  obtain ⟨dl__law_bad_0, dv__law_bad_0, hb__law_bad_0, hd__law_bad_0, hdd__law_bad_0, hl__law_bad_0⟩ := db0 T.b__law_bad
  obtain ⟨dl__law_draw_0, dv__law_draw_0, hb__law_draw_0, hd__law_draw_0, hdd__law_draw_0, hl__law_draw_0⟩ := db0 T.b__law_draw
  obtain ⟨dl__law_token_0, dv__law_token_0, hb__law_token_0, hd__law_token_0, hdd__law_token_0, hl__law_token_0⟩ := db0 T.b__law_token
  refine fn_okD (N := ["_law_draws", "_law_menu", "_law_things_here", "_law_k"]) (ps := ["_law_draws"]) (k := 3) (den := d__law_things) T.F__law_things sc__law_things fun cdv Ar outer s H E hr => ?_
  have nd := sc__law_things.nd
  have hu := hr.units
  have hu1 : (Ar.deeper (envOfC "_law_things" (defScope s__law_things) s.heap.objs.size (A 8) cdv)).units + 65 < cLine := by have := hr.un; omega
  have hu2 : (Ar.deeper (envOfC "_law_things" (defScope s__law_things) s.heap.objs.size (A 8) cdv)).units + 1 < cLine := by omega
  have tk : Takes (cxOf (L2.CX P w) P w K mg base ["_law_draws", "_law_menu", "_law_things_here", "_law_k"] "_law_things" (defScope s__law_things) (A 8) cdv Ar outer s H E) (fun cls d _ H => E cls d H) := takes_of rfl rfl rfl rfl
  have po : PassesOwn (model P w) (Ar.deeper (envOfC "_law_things" (defScope s__law_things) s.heap.objs.size (A 8) cdv)) (cxOf (L2.CX P w) P w K mg base ["_law_draws", "_law_menu", "_law_things_here", "_law_k"] "_law_things" (defScope s__law_things) (A 8) cdv Ar outer s H E).env (cxOf (L2.CX P w) P w K mg base ["_law_draws", "_law_menu", "_law_things_here", "_law_k"] "_law_things" (defScope s__law_things) (A 8) cdv Ar outer s H E).xe := passes_of rfl
  exact (dss_cons (ds_if (dt_cmp (op_eqD hu) ok_eq (de_call G__law_draw tk (hr.mono (by decide)) (by rfl) T.f__law_draw T.F__law_draw.kp T.b__law_draw (dar_cons (de_var (pv 0)) (dar_cons di_int.e dar_nil))).v di_int.v (nomark _)) (dss_cons (ds_set (i := 1) nd rfl (.inr rfl) (de_lst (da_cons di_str (da_cons di_str (da_cons di_str (da_cons di_str (da_cons di_str (da_cons di_str (da_cons di_str (da_cons di_str (da_cons di_str da_nil)))))))))).i.e) (dss_cons (ds_setLc (i := 2) (own := [("_law_k", 3)]) rfl nd rfl rfl (sw_true rfl rfl rfl (by decide +kernel)) (dpi_range1 (by rfl) T.n_range (da_cons (di_add di_int (de_call G__law_draw tk (hr.mono (by decide)) (by rfl) T.f__law_draw T.F__law_draw.kp T.b__law_draw (dar_cons (de_var (pv 0)) (dar_cons di_int.e dar_nil))).i) da_nil)) (blkOk_by (N := ["_law_draws", "_law_menu", "_law_things_here", "_law_k"]) (sc := defScope s__law_things) (by decide +kernel)) (by decide) (by decide) (fun _ _ _ _ _ => (dg_name (i := 3) nd rfl (.inl rfl))) (fun _ _ _ _ _ => dts_nil) (fun _ _ _ _ _ => (di_tup (da_cons (di_ixI (de_var (pv 1)).i (de_call G__law_draw takes0 (hr.mono (by decide)) (by rfl) T.f__law_draw T.F__law_draw.kp T.b__law_draw (dar_cons (de_var (pv 0)) (dar_cons di_int.e dar_nil))).i) (da_cons di_bl da_nil))).e)) (dss_cons (ds_if (dt_cmp op_gt ok_gt (de_call G__law_draw tk (hr.mono (by decide)) (by rfl) T.f__law_draw T.F__law_draw.kp T.b__law_draw (dar_cons (de_var (pv 0)) (dar_cons di_int.e dar_nil))).v di_int.v (nomark _)) (dss_one (ds_stI (i := 2) (pv 2) (di_tup (da_cons (de_slice (de_call G__law_bad tk (hr.mono (by decide)) (by rfl) T.f__law_bad T.F__law_bad.kp T.b__law_bad (dar_cons (de_var (pv 0)) dar_nil)).o dp_none (dp_some di_int)).i (da_cons di_bl da_nil))) (di_mod (di_callTV call_int1 ok_int (by rfl) T.n_int (by decide +kernel) (dv_cons (di_add di_int (de_call G__law_draw tk (hr.mono (by decide)) (by rfl) T.f__law_draw T.F__law_draw.kp T.b__law_draw (dar_cons (de_var (pv 0)) (dar_cons di_int.e dar_nil))).i).v dv_nil)) (di_callBV call_len ok_len (by rfl) T.n_len (by decide +kernel) (dv_cons (de_var (pv 2)).v dv_nil))) (fun h1 h2 => ps_asg h1 (pg_sub (pv 2) h2 set_list)))) dss_nil) (dss_one (ds_ret (de_var (pv 2))))))) dss_nil) (dss_cons (ds_setLc (i := 2) (own := [("_law_k", 3)]) rfl nd rfl rfl (sw_true rfl rfl rfl (by decide +kernel)) (dpi_range1 (by rfl) T.n_range (da_cons (de_call G__law_draw tk (hr.mono (by decide)) (by rfl) T.f__law_draw T.F__law_draw.kp T.b__law_draw (dar_cons (de_var (pv 0)) (dar_cons di_int.e dar_nil))).i da_nil)) (blkOk_by (N := ["_law_draws", "_law_menu", "_law_things_here", "_law_k"]) (sc := defScope s__law_things) (by decide +kernel)) (by decide) (by decide) (fun _ _ _ _ _ => (dg_name (i := 3) nd rfl (.inl rfl))) (fun _ _ _ _ _ => dts_nil) (fun _ _ _ _ _ => (di_tup (da_cons (de_call G__law_token takes0 (hr.mono (by decide)) (by rfl) T.f__law_token T.F__law_token.kp T.b__law_token (dar_cons (de_var (pv 0)) dar_nil)).i (da_cons di_bl da_nil))).e)) (dss_cons (ds_forP po rfl (dpi_range1 (by rfl) T.n_range (da_cons (di_add di_int (de_call G__law_draw tk (hr.mono (by decide)) (by rfl) T.f__law_draw T.F__law_draw.kp T.b__law_draw (dar_cons (de_var (pv 0)) (dar_cons di_int.e dar_nil))).i) da_nil)) (dg_name (i := 3) nd rfl (.inl rfl)) (dss_one (ds_ins (i := 2) (pv 2) (da_cons (di_mod (di_callTV call_int1 ok_int (by rfl) T.n_int (by decide +kernel) (dv_cons (de_call G__law_draw tk (hr.mono (by decide)) (by rfl) T.f__law_draw T.F__law_draw.kp T.b__law_draw (dar_cons (de_var (pv 0)) (dar_cons di_int.e dar_nil))).v dv_nil)) (di_add (di_callBV call_len ok_len (by rfl) T.n_len (by decide +kernel) (dv_cons (de_var (pv 2)).v dv_nil)) di_int)) (da_cons (di_tup (da_cons (de_call G__law_bad tk (hr.mono (by decide)) (by rfl) T.f__law_bad T.F__law_bad.kp T.b__law_bad (dar_cons (de_var (pv 0)) dar_nil)).i (da_cons di_bl da_nil))) da_nil)) (by rfl) (fun h => pe_bm PySem.F.plainAttrs_list PySem.F.slot_list_insert PySem.F.type_list_insert mt_insert (pv 2) h)))) (dss_one (ds_ret (de_var (pv 2)))))))
theorem ok_KeptError_init (T : Txt K mg A FD XA) : FnOk P w K mg base (L2.CX P w) 1 (A 9) (FD 9) ["self", "what"] (spKept K "what") := ok_kept (k := 0) rfl T.F_KeptError_init sc_KeptError_init fun cdv Ar outer s H E hr => pss_cons (ps_expr (pe_veinit (by rfl) T.n_ValueError T.vV (pa_cons (pv 0) (pa_cons pe_str pa_nil)))) (pss_one (ps_ost (pv 0) (pv 1)))
theorem ok_run_of (T : Txt K mg A FD XA) : FnOk P w K mg base (L2.CX P w) 1 (A 10) (FD 10) ["text", "place", "chars"] (spD ⟨K, P, w, mg⟩ 3 (f_run_of)) := by
  refine fn_okD (N := ["text", "place", "chars", "end"]) (ps := ["text", "place", "chars"]) (k := 0) (den := d_run_of) T.F_run_of sc_run_of fun cdv Ar outer s H E hr => ?_
  have nd := sc_run_of.nd
  have hu := hr.units
  have hu1 : (Ar.deeper (envOfC "run_of" (defScope s_run_of) s.heap.objs.size (A 10) cdv)).units + 65 < cLine := by have := hr.un; omega
  have hu2 : (Ar.deeper (envOfC "run_of" (defScope s_run_of) s.heap.objs.size (A 10) cdv)).units + 1 < cLine := by omega
  have tk : Takes (cxOf (L2.CX P w) P w K mg base ["text", "place", "chars", "end"] "run_of" (defScope s_run_of) (A 10) cdv Ar outer s H E) (fun cls d _ H => E cls d H) := takes_of rfl rfl rfl rfl
  have po : PassesOwn (model P w) (Ar.deeper (envOfC "run_of" (defScope s_run_of) s.heap.objs.size (A 10) cdv)) (cxOf (L2.CX P w) P w K mg base ["text", "place", "chars", "end"] "run_of" (defScope s_run_of) (A 10) cdv Ar outer s H E).env (cxOf (L2.CX P w) P w K mg base ["text", "place", "chars", "end"] "run_of" (defScope s_run_of) (A 10) cdv Ar outer s H E).xe := passes_of rfl
  exact (dss_cons (ds_set (i := 3) nd rfl (.inl rfl) (de_var (pv 1)).i.e) (dss_cons (ds_while 1000000 po (dw_and (dt_cmp op_lt2 ok_lt (de_var (pv 3)).v (di_callBV call_len ok_len (by rfl) T.n_len (by decide +kernel) (dv_cons (de_var (pv 0)).v dv_nil)).v (nomark _)) (dw_and1 (dt_cmp (op_in3 hu1) ok_in (do_ix (de_var (pv 0)).o (de_var (pv 3)).i).v (de_var (pv 2)).v (by rfl)))).t (dss_one (ds_set (i := 3) nd rfl (.inl rfl) (di_add (de_var (pv 3)).i di_int).e))) (dss_one (ds_ret (de_slice (de_var (pv 0)).o (dp_some (de_var (pv 1)).i) (dp_some (de_var (pv 3)).i))))))
theorem ok_number_at (T : Txt K mg A FD XA) : FnOk P w K mg base (L2.CX P w) 3 (A 11) (FD 11) ["text", "place"] (spD ⟨K, P, w, mg⟩ 2 (f_number_at)) := by
  have G_run_of : FnOk P w K mg base (L2.CX P w) 1 (A 10) (FD 10) ["text", "place", "chars"] (spD ⟨K, P, w, mg⟩ 3 (f_run_of)) := ok_run_of T
  have G_KeptError_init : FnOk P w K mg base (L2.CX P w) 1 (A 9) (FD 9) ["self", "what"] (spKept K "what") := ok_KeptError_init T
  obtain ⟨dl_KeptError_init_0, dv_KeptError_init_0, hb_KeptError_init_0, hd_KeptError_init_0, hdd_KeptError_init_0, hl_KeptError_init_0⟩ := T.b_KeptError_init_0
  obtain ⟨dl_run_of_0, dv_run_of_0, hb_run_of_0, hd_run_of_0, hdd_run_of_0, hl_run_of_0⟩ := db0 T.b_run_of
  refine fn_okD (N := ["text", "place", "digits"]) (ps := ["text", "place"]) (k := 2) (den := d_number_at) T.F_number_at sc_number_at fun cdv Ar outer s H E hr => ?_
  have nd := sc_number_at.nd
  have hu := hr.units
  have hu1 : (Ar.deeper (envOfC "number_at" (defScope s_number_at) s.heap.objs.size (A 11) cdv)).units + 65 < cLine := by have := hr.un; omega
  have hu2 : (Ar.deeper (envOfC "number_at" (defScope s_number_at) s.heap.objs.size (A 11) cdv)).units + 1 < cLine := by omega
  have tk : Takes (cxOf (L2.CX P w) P w K mg base ["text", "place", "digits"] "number_at" (defScope s_number_at) (A 11) cdv Ar outer s H E) (fun cls d _ H => E cls d H) := takes_of rfl rfl rfl rfl
  have po : PassesOwn (model P w) (Ar.deeper (envOfC "number_at" (defScope s_number_at) s.heap.objs.size (A 11) cdv)) (cxOf (L2.CX P w) P w K mg base ["text", "place", "digits"] "number_at" (defScope s_number_at) (A 11) cdv Ar outer s H E).env (cxOf (L2.CX P w) P w K mg base ["text", "place", "digits"] "number_at" (defScope s_number_at) (A 11) cdv Ar outer s H E).xe := passes_of rfl
  exact (dss_cons (ds_set (i := 2) nd rfl (.inl rfl) (de_call G_run_of tk (hr.mono (by decide)) (by rfl) T.f_run_of T.F_run_of.kp T.b_run_of (dar_cons (de_var (pv 0)) (dar_cons (de_var (pv 1)) (dar_cons (di_gS (by rfl) T.g_DIGITS).e dar_nil)))).i.e) (dss_cons (ds_if (dw_or (dw_and (dt_cmp (op_eqD hu) ok_eq (do_ix (de_var (pv 2)).o di_int).v di_str.v (nomark _)) (dw_and1 (dt_cmp op_gt ok_gt (di_callBV call_len ok_len (by rfl) T.n_len (by decide +kernel) (dv_cons (de_var (pv 2)).v dv_nil)).v di_int.v (nomark _)))).t (dw_or1 (dt_cmp op_gt ok_gt (di_callTV call_int_str ok_intS (by rfl) T.n_int (by decide +kernel) (dv_cons (de_var (pv 2)).v dv_nil)).v (di_gI (by rfl) T.g_MOST).v (nomark _)))).t (dss_one (ds_raise T.ez_BadToken T.xti G_KeptError_init (hr.mono (by decide)) (db_full T.b_KeptError_init_0) rfl tk (by rfl) (de_var (pv 1)).i)) dss_nil) (dss_one (ds_ret (de_var (pv 2))))))
theorem ok_word_at (T : Txt K mg A FD XA) : FnOk P w K mg base (L2.CX P w) 3 (A 12) (FD 12) ["text", "place"] (spD ⟨K, P, w, mg⟩ 2 (f_word_at)) := by
  have G_run_of : FnOk P w K mg base (L2.CX P w) 1 (A 10) (FD 10) ["text", "place", "chars"] (spD ⟨K, P, w, mg⟩ 3 (f_run_of)) := ok_run_of T
  have G_KeptError_init : FnOk P w K mg base (L2.CX P w) 1 (A 9) (FD 9) ["self", "what"] (spKept K "what") := ok_KeptError_init T
  obtain ⟨dl_KeptError_init_0, dv_KeptError_init_0, hb_KeptError_init_0, hd_KeptError_init_0, hdd_KeptError_init_0, hl_KeptError_init_0⟩ := T.b_KeptError_init_0
  obtain ⟨dl_run_of_0, dv_run_of_0, hb_run_of_0, hd_run_of_0, hdd_run_of_0, hl_run_of_0⟩ := db0 T.b_run_of
  refine fn_okD (N := ["text", "place", "word"]) (ps := ["text", "place"]) (k := 2) (den := d_word_at) T.F_word_at sc_word_at fun cdv Ar outer s H E hr => ?_
  have nd := sc_word_at.nd
  have hu := hr.units
  have hu1 : (Ar.deeper (envOfC "word_at" (defScope s_word_at) s.heap.objs.size (A 12) cdv)).units + 65 < cLine := by have := hr.un; omega
  have hu2 : (Ar.deeper (envOfC "word_at" (defScope s_word_at) s.heap.objs.size (A 12) cdv)).units + 1 < cLine := by omega
  have tk : Takes (cxOf (L2.CX P w) P w K mg base ["text", "place", "word"] "word_at" (defScope s_word_at) (A 12) cdv Ar outer s H E) (fun cls d _ H => E cls d H) := takes_of rfl rfl rfl rfl
  have po : PassesOwn (model P w) (Ar.deeper (envOfC "word_at" (defScope s_word_at) s.heap.objs.size (A 12) cdv)) (cxOf (L2.CX P w) P w K mg base ["text", "place", "word"] "word_at" (defScope s_word_at) (A 12) cdv Ar outer s H E).env (cxOf (L2.CX P w) P w K mg base ["text", "place", "word"] "word_at" (defScope s_word_at) (A 12) cdv Ar outer s H E).xe := passes_of rfl
  exact (dss_cons (ds_set (i := 2) nd rfl (.inl rfl) (de_call G_run_of tk (hr.mono (by decide)) (by rfl) T.f_run_of T.F_run_of.kp T.b_run_of (dar_cons (de_var (pv 0)) (dar_cons (de_var (pv 1)) (dar_cons (di_gS (by rfl) T.g_LETTERS).e dar_nil)))).i.e) (dss_cons (ds_if (dt_cmp op_gt ok_gt (di_callBV call_len ok_len (by rfl) T.n_len (by decide +kernel) (dv_cons (de_var (pv 2)).v dv_nil)).v (di_gI (by rfl) T.g_MOST_LETTERS).v (nomark _)) (dss_one (ds_raise T.ez_BadToken T.xti G_KeptError_init (hr.mono (by decide)) (db_full T.b_KeptError_init_0) rfl tk (by rfl) (de_var (pv 1)).i)) dss_nil) (dss_one (ds_ret (de_var (pv 2))))))
theorem ok_token_at (T : Txt K mg A FD XA) : FnOk P w K mg base (L2.CX P w) 4 (A 13) (FD 13) ["text", "place"] (spD ⟨K, P, w, mg⟩ 2 (f_token_at)) := by
  have G_number_at : FnOk P w K mg base (L2.CX P w) 3 (A 11) (FD 11) ["text", "place"] (spD ⟨K, P, w, mg⟩ 2 (f_number_at)) := ok_number_at T
  have G_word_at : FnOk P w K mg base (L2.CX P w) 3 (A 12) (FD 12) ["text", "place"] (spD ⟨K, P, w, mg⟩ 2 (f_word_at)) := ok_word_at T
  have G_KeptError_init : FnOk P w K mg base (L2.CX P w) 1 (A 9) (FD 9) ["self", "what"] (spKept K "what") := ok_KeptError_init T
  obtain ⟨dl_KeptError_init_0, dv_KeptError_init_0, hb_KeptError_init_0, hd_KeptError_init_0, hdd_KeptError_init_0, hl_KeptError_init_0⟩ := T.b_KeptError_init_0
  obtain ⟨dl_number_at_0, dv_number_at_0, hb_number_at_0, hd_number_at_0, hdd_number_at_0, hl_number_at_0⟩ := db0 T.b_number_at
  obtain ⟨dl_word_at_0, dv_word_at_0, hb_word_at_0, hd_word_at_0, hdd_word_at_0, hl_word_at_0⟩ := db0 T.b_word_at
  refine fn_okD (N := ["text", "place"]) (ps := ["text", "place"]) (k := 3) (den := d_token_at) T.F_token_at sc_token_at fun cdv Ar outer s H E hr => ?_
  have nd := sc_token_at.nd
  have hu := hr.units
  have hu1 : (Ar.deeper (envOfC "token_at" (defScope s_token_at) s.heap.objs.size (A 13) cdv)).units + 65 < cLine := by have := hr.un; omega
  have hu2 : (Ar.deeper (envOfC "token_at" (defScope s_token_at) s.heap.objs.size (A 13) cdv)).units + 1 < cLine := by omega
  have tk : Takes (cxOf (L2.CX P w) P w K mg base ["text", "place"] "token_at" (defScope s_token_at) (A 13) cdv Ar outer s H E) (fun cls d _ H => E cls d H) := takes_of rfl rfl rfl rfl
  have po : PassesOwn (model P w) (Ar.deeper (envOfC "token_at" (defScope s_token_at) s.heap.objs.size (A 13) cdv)) (cxOf (L2.CX P w) P w K mg base ["text", "place"] "token_at" (defScope s_token_at) (A 13) cdv Ar outer s H E).env (cxOf (L2.CX P w) P w K mg base ["text", "place"] "token_at" (defScope s_token_at) (A 13) cdv Ar outer s H E).xe := passes_of rfl
  exact (dss_cons (ds_if (dt_cmp (op_in3 hu1) ok_in (do_ix (de_var (pv 0)).o (de_var (pv 1)).i).v (di_gS (by rfl) T.g_DIGITS).v (by rfl)) (dss_one (ds_ret (de_call G_number_at tk (hr.mono (by decide)) (by rfl) T.f_number_at T.F_number_at.kp T.b_number_at (dar_cons (de_var (pv 0)) (dar_cons (de_var (pv 1)) dar_nil))))) dss_nil) (dss_cons (ds_if (dt_cmp (op_in3 hu1) ok_in (do_ix (de_var (pv 0)).o (de_var (pv 1)).i).v (di_gS (by rfl) T.g_LETTERS).v (by rfl)) (dss_one (ds_ret (de_call G_word_at tk (hr.mono (by decide)) (by rfl) T.f_word_at T.F_word_at.kp T.b_word_at (dar_cons (de_var (pv 0)) (dar_cons (de_var (pv 1)) dar_nil))))) dss_nil) (dss_cons (ds_if (dt_cmp (op_in3 hu1) ok_in (de_slice (de_var (pv 0)).o (dp_some (de_var (pv 1)).i) (dp_some (di_add (de_var (pv 1)).i di_int))).v (di_g (by rfl) T.g_DOUBLE_SIGNS).v (by rfl)) (dss_one (ds_ret (de_slice (de_var (pv 0)).o (dp_some (de_var (pv 1)).i) (dp_some (di_add (de_var (pv 1)).i di_int))))) dss_nil) (dss_cons (ds_if (dt_cmp (op_in3 hu1) ok_in (do_ix (de_var (pv 0)).o (de_var (pv 1)).i).v (di_gS (by rfl) T.g_SIGNS).v (by rfl)) (dss_one (ds_ret (do_ix (de_var (pv 0)).o (de_var (pv 1)).i).i.e)) dss_nil) (dss_one (ds_raise T.ez_BadToken T.xti G_KeptError_init (hr.mono (by decide)) (db_full T.b_KeptError_init_0) rfl tk (by rfl) (de_var (pv 1)).i))))))
theorem ok_tokens (T : Txt K mg A FD XA) : FnOk P w K mg base (L2.CX P w) 5 (A 14) (FD 14) ["text"] (spD ⟨K, P, w, mg⟩ 1 (f_tokens)) := by
  have G_KeptError_init : FnOk P w K mg base (L2.CX P w) 1 (A 9) (FD 9) ["self", "what"] (spKept K "what") := ok_KeptError_init T
  have G_token_at : FnOk P w K mg base (L2.CX P w) 4 (A 13) (FD 13) ["text", "place"] (spD ⟨K, P, w, mg⟩ 2 (f_token_at)) := ok_token_at T
  obtain ⟨dl_KeptError_init_0, dv_KeptError_init_0, hb_KeptError_init_0, hd_KeptError_init_0, hdd_KeptError_init_0, hl_KeptError_init_0⟩ := T.b_KeptError_init_0
  obtain ⟨dl_token_at_0, dv_token_at_0, hb_token_at_0, hd_token_at_0, hdd_token_at_0, hl_token_at_0⟩ := db0 T.b_token_at
  refine fn_okD (N := ["text", "found", "place", "token"]) (ps := ["text"]) (k := 4) (den := d_tokens) T.F_tokens sc_tokens fun cdv Ar outer s H E hr => ?_
  have nd := sc_tokens.nd
  have hu := hr.units
  have hu1 : (Ar.deeper (envOfC "tokens" (defScope s_tokens) s.heap.objs.size (A 14) cdv)).units + 65 < cLine := by have := hr.un; omega
  have hu2 : (Ar.deeper (envOfC "tokens" (defScope s_tokens) s.heap.objs.size (A 14) cdv)).units + 1 < cLine := by omega
  have tk : Takes (cxOf (L2.CX P w) P w K mg base ["text", "found", "place", "token"] "tokens" (defScope s_tokens) (A 14) cdv Ar outer s H E) (fun cls d _ H => E cls d H) := takes_of rfl rfl rfl rfl
  have po : PassesOwn (model P w) (Ar.deeper (envOfC "tokens" (defScope s_tokens) s.heap.objs.size (A 14) cdv)) (cxOf (L2.CX P w) P w K mg base ["text", "found", "place", "token"] "tokens" (defScope s_tokens) (A 14) cdv Ar outer s H E).env (cxOf (L2.CX P w) P w K mg base ["text", "found", "place", "token"] "tokens" (defScope s_tokens) (A 14) cdv Ar outer s H E).xe := passes_of rfl
  exact (dss_cons (ds_set (i := 1) nd rfl (.inl rfl) (de_lst da_nil)) (dss_cons (ds_set (i := 2) nd rfl (.inl rfl) di_int.e) (dss_cons (ds_while 1000000 po (dt_cmp op_lt2 ok_lt (de_var (pv 2)).v (di_callBV call_len ok_len (by rfl) T.n_len (by decide +kernel) (dv_cons (de_var (pv 0)).v dv_nil)).v (nomark _)) (dss_one (ds_if (dt_cmp (op_eqD hu) ok_eq (do_ix (de_var (pv 0)).o (de_var (pv 2)).i).v di_str.v (nomark _)) (dss_one (ds_set (i := 2) nd rfl (.inl rfl) (di_add (de_var (pv 2)).i di_int).e)) (dss_cons (ds_if (dt_cmp (op_eqD hu) ok_eq (di_callBV call_len ok_len (by rfl) T.n_len (by decide +kernel) (dv_cons (de_var (pv 1)).v dv_nil)).v (di_gI (by rfl) T.g_MOST_TOKENS).v (nomark _)) (dss_one (ds_raise T.ez_OverLimit T.xti G_KeptError_init (hr.mono (by decide)) (db_full T.b_KeptError_init_0) rfl tk (by rfl) (de_var (pv 2)).i)) dss_nil) (dss_cons (ds_set (i := 3) nd rfl (.inl rfl) (de_call G_token_at tk (hr.mono (by decide)) (by rfl) T.f_token_at T.F_token_at.kp T.b_token_at (dar_cons (de_var (pv 0)) (dar_cons (de_var (pv 2)).i.e dar_nil))).i.e) (dss_cons (ds_app (i := 1) (pv 1) (di_tup (da_cons (de_var (pv 3)).i (da_cons (de_var (pv 2)).i da_nil))).e (fun h => pe_bm PySem.F.plainAttrs_list PySem.F.slot_list_append PySem.F.type_list_append mt_append (pv 1) h)) (dss_one (ds_set (i := 2) nd rfl (.inl rfl) (di_add (de_var (pv 2)).i (di_callBV call_len ok_len (by rfl) T.n_len (by decide +kernel) (dv_cons (de_var (pv 3)).v dv_nil))).e)))))))) (dss_one (ds_ret (de_var (pv 1)))))))
theorem ok__law_outcome (T : Txt K mg A FD XA) : FnOk P w K mg base (L2.CX P w) 6 (A 15) (FD 15) ["_law_text"] (spD ⟨K, P, w, mg⟩ 1 (f__law_outcome)) := by
  have G_tokens : FnOk P w K mg base (L2.CX P w) 5 (A 14) (FD 14) ["text"] (spD ⟨K, P, w, mg⟩ 1 (f_tokens)) := ok_tokens T
  obtain ⟨dl_tokens_0, dv_tokens_0, hb_tokens_0, hd_tokens_0, hdd_tokens_0, hl_tokens_0⟩ := db0 T.b_tokens
  refine fn_okD (N := ["_law_text", "e"]) (ps := ["_law_text"]) (k := 5) (den := d__law_outcome) T.F__law_outcome sc__law_outcome fun cdv Ar outer s H E hr => ?_
  have nd := sc__law_outcome.nd
  have hu := hr.units
  have hu1 : (Ar.deeper (envOfC "_law_outcome" (defScope s__law_outcome) s.heap.objs.size (A 15) cdv)).units + 65 < cLine := by have := hr.un; omega
  have hu2 : (Ar.deeper (envOfC "_law_outcome" (defScope s__law_outcome) s.heap.objs.size (A 15) cdv)).units + 1 < cLine := by omega
  have tk : Takes (cxOf (L2.CX P w) P w K mg base ["_law_text", "e"] "_law_outcome" (defScope s__law_outcome) (A 15) cdv Ar outer s H E) (fun cls d _ H => E cls d H) := takes_of rfl rfl rfl rfl
  have po : PassesOwn (model P w) (Ar.deeper (envOfC "_law_outcome" (defScope s__law_outcome) s.heap.objs.size (A 15) cdv)) (cxOf (L2.CX P w) P w K mg base ["_law_text", "e"] "_law_outcome" (defScope s__law_outcome) (A 15) cdv Ar outer s H E).env (cxOf (L2.CX P w) P w K mg base ["_law_text", "e"] "_law_outcome" (defScope s__law_outcome) (A 15) cdv Ar outer s H E).xe := passes_of rfl
  exact (dss_cons (ds_try rfl rfl nd tk (fun W2 pn xe tk po => (dss_one (ds_expr (de_call G_tokens tk (hr.mono (by decide)) (by rfl) T.f_tokens T.F_tokens.kp T.b_tokens (dar_cons (de_var (pv 0)) dar_nil))))) (HandOk.as (i := 1) rfl rfl ⟨by rfl, by decide, .inl T.xm_BadToken⟩ T.sub_BadToken (fun xa xd oe xc xC d pn hl hm hz hd hf => (dss_one (ds_ret (di_tup (da_cons di_str (da_cons (di_xf hz hf (T.xis _ (lookup_in hl) _ hm).1.xf (T.xis _ (lookup_in hl) _ hm).2 (pv 1) (hd rfl)) da_nil))).e))) (HandOk.as (i := 1) rfl rfl ⟨by rfl, by decide, .inl T.xm_OverLimit⟩ T.sub_OverLimit (fun xa xd oe xc xC d pn hl hm hz hd hf => (dss_one (ds_ret (di_tup (da_cons di_str (da_cons (di_xf hz hf (T.xis _ (lookup_in hl) _ hm).1.xf (T.xis _ (lookup_in hl) _ hm).2 (pv 1) (hd rfl)) da_nil))).e))) HandOk.nil))) (dss_one (ds_ret (di_tup (da_cons di_str (da_cons di_int da_nil))).e)))
theorem ok__law_family (T : Txt K mg A FD XA) : FnOk P w K mg base (L2.CX P w) 6 (A 16) (FD 16) ["_law_text", "_law_word_here"] (spD ⟨K, P, w, mg⟩ 2 (f__law_family)) := by
  have G_tokens : FnOk P w K mg base (L2.CX P w) 5 (A 14) (FD 14) ["text"] (spD ⟨K, P, w, mg⟩ 1 (f_tokens)) := ok_tokens T
  obtain ⟨dl_tokens_0, dv_tokens_0, hb_tokens_0, hd_tokens_0, hdd_tokens_0, hl_tokens_0⟩ := db0 T.b_tokens
  refine fn_okD (N := ["_law_text", "_law_word_here", "e"]) (ps := ["_law_text", "_law_word_here"]) (k := 5) (den := d__law_family) T.F__law_family sc__law_family fun cdv Ar outer s H E hr => ?_
  have nd := sc__law_family.nd
  have hu := hr.units
  have hu1 : (Ar.deeper (envOfC "_law_family" (defScope s__law_family) s.heap.objs.size (A 16) cdv)).units + 65 < cLine := by have := hr.un; omega
  have hu2 : (Ar.deeper (envOfC "_law_family" (defScope s__law_family) s.heap.objs.size (A 16) cdv)).units + 1 < cLine := by omega
  have tk : Takes (cxOf (L2.CX P w) P w K mg base ["_law_text", "_law_word_here", "e"] "_law_family" (defScope s__law_family) (A 16) cdv Ar outer s H E) (fun cls d _ H => E cls d H) := takes_of rfl rfl rfl rfl
  have po : PassesOwn (model P w) (Ar.deeper (envOfC "_law_family" (defScope s__law_family) s.heap.objs.size (A 16) cdv)) (cxOf (L2.CX P w) P w K mg base ["_law_text", "_law_word_here", "e"] "_law_family" (defScope s__law_family) (A 16) cdv Ar outer s H E).env (cxOf (L2.CX P w) P w K mg base ["_law_text", "_law_word_here", "e"] "_law_family" (defScope s__law_family) (A 16) cdv Ar outer s H E).xe := passes_of rfl
  exact (dss_cons (ds_try rfl rfl nd tk (fun W2 pn xe tk po => (dss_one (ds_expr (de_call G_tokens tk (hr.mono (by decide)) (by rfl) T.f_tokens T.F_tokens.kp T.b_tokens (dar_cons (de_var (pv 0)) dar_nil))))) (HandOk.as (i := 2) rfl rfl ⟨by rfl, by decide, .inl T.xm_KeptError⟩ T.sub_KeptError (fun xa xd oe xc xC d pn hl hm hz hd hf => (dss_cons (ds_if (dw_or (dt_not (dt_tru (di_xi (vc := .ref (XA 1)) (cv := .ref (XA 1)) hz (hd rfl) hf (T.xis _ (lookup_in hl) _ hm).1 (fun _ r => r) (fun _ hk => T.kit_ScriptError _ _ hk _ hm) (by rfl) T.n_isinstance (pv 2) (pe_glob (v := .ref (XA 1)) (by rfl) T.xm_ScriptError rfl)).v)) (dw_or1 (dt_not (dt_tru (di_xi (vc := .ty "ValueError") (cv := .type "ValueError") hz (hd rfl) hf (T.xis _ (lookup_in hl) _ hm).1 (fun _ r => r) (fun _ hk => T.kit_ValueError _ _ hk _ hm) (by rfl) T.n_isinstance (pv 2) (pe_bltn (v := .ty "ValueError") (by rfl) T.n_ValueError (by rfl) rfl)).v)))).t (dss_one (ds_ret di_bl.e)) dss_nil) (dss_cons (ds_if (dw_or (dt_tru (di_xi (vc := .ref (XA 3)) (cv := .ref (XA 3)) hz (hd rfl) hf (T.xis _ (lookup_in hl) _ hm).1 (fun _ r => r) (fun _ hk => T.kit_BadSyntax _ _ hk _ hm) (by rfl) T.n_isinstance (pv 2) (pe_glob (v := .ref (XA 3)) (by rfl) T.xm_BadSyntax rfl)).v) (dw_or (dt_tru (di_xi (vc := .ref (XA 5)) (cv := .ref (XA 5)) hz (hd rfl) hf (T.xis _ (lookup_in hl) _ hm).1 (fun _ r => r) (fun _ hk => T.kit_BadUse _ _ hk _ hm) (by rfl) T.n_isinstance (pv 2) (pe_glob (v := .ref (XA 5)) (by rfl) T.xm_BadUse rfl)).v) (dw_or (dt_tru (di_xi (vc := .ref (XA 6)) (cv := .ref (XA 6)) hz (hd rfl) hf (T.xis _ (lookup_in hl) _ hm).1 (fun _ r => r) (fun _ hk => T.kit_DeepTerm _ _ hk _ hm) (by rfl) T.n_isinstance (pv 2) (pe_glob (v := .ref (XA 6)) (by rfl) T.xm_DeepTerm rfl)).v) (dw_or1 (dt_tru (di_xi (vc := .ref (XA 7)) (cv := .ref (XA 7)) hz (hd rfl) hf (T.xis _ (lookup_in hl) _ hm).1 (fun _ r => r) (fun _ hk => T.kit_NoKind _ _ hk _ hm) (by rfl) T.n_isinstance (pv 2) (pe_glob (v := .ref (XA 7)) (by rfl) T.xm_NoKind rfl)).v))))).t (dss_one (ds_ret di_bl.e)) dss_nil) (dss_cons (ds_if (dw_and (dt_tru (di_xi (vc := .ref (XA 2)) (cv := .ref (XA 2)) hz (hd rfl) hf (T.xis _ (lookup_in hl) _ hm).1 (fun _ r => r) (fun _ hk => T.kit_BadToken _ _ hk _ hm) (by rfl) T.n_isinstance (pv 2) (pe_glob (v := .ref (XA 2)) (by rfl) T.xm_BadToken rfl)).v) (dw_and1 (dt_tru (di_xi (vc := .ref (XA 4)) (cv := .ref (XA 4)) hz (hd rfl) hf (T.xis _ (lookup_in hl) _ hm).1 (fun _ r => r) (fun _ hk => T.kit_OverLimit _ _ hk _ hm) (by rfl) T.n_isinstance (pv 2) (pe_glob (v := .ref (XA 4)) (by rfl) T.xm_OverLimit rfl)).v))).t (dss_one (ds_ret di_bl.e)) dss_nil) (dss_one (ds_ret (di_cmp (op_neD hu) ok_ne (de_var (pv 1)).v di_str.v (nomark _)).e)))))) HandOk.nil)) (dss_one (ds_ret (di_cmp (op_eqD hu) ok_eq (de_var (pv 1)).v di_str.v (nomark _)).e)))
theorem ok_law (T : Txt K mg A FD XA) : FnOk P w K mg base (L2.CX P w) 7 (A 17) (FD 17) ["_law_script"] (spD ⟨K, P, w, mg⟩ 1 (f_law)) := by
  have G__law_numbers : FnOk P w K mg base (L2.CX P w) 1 (A 0) (FD 0) ["_law_script", "_law_many"] (spD ⟨K, P, w, mg⟩ 2 (f__law_numbers)) := ok__law_numbers T
  have G__law_draw : FnOk P w K mg base (L2.CX P w) 1 (A 1) (FD 1) ["_law_draws", "_law_many"] (spD ⟨K, P, w, mg⟩ 2 (f__law_draw)) := ok__law_draw T
  have G__law_glued : FnOk P w K mg base (L2.CX P w) 1 (A 2) (FD 2) ["_law_before", "_law_after"] (spD ⟨K, P, w, mg⟩ 2 (f__law_glued)) := ok__law_glued T
  have G__law_things : FnOk P w K mg base (L2.CX P w) 4 (A 8) (FD 8) ["_law_draws"] (spD ⟨K, P, w, mg⟩ 1 (f__law_things)) := ok__law_things T
  have G__law_outcome : FnOk P w K mg base (L2.CX P w) 6 (A 15) (FD 15) ["_law_text"] (spD ⟨K, P, w, mg⟩ 1 (f__law_outcome)) := ok__law_outcome T
  have G__law_family : FnOk P w K mg base (L2.CX P w) 6 (A 16) (FD 16) ["_law_text", "_law_word_here"] (spD ⟨K, P, w, mg⟩ 2 (f__law_family)) := ok__law_family T
  obtain ⟨dl__law_draw_0, dv__law_draw_0, hb__law_draw_0, hd__law_draw_0, hdd__law_draw_0, hl__law_draw_0⟩ := db0 T.b__law_draw
  obtain ⟨dl__law_family_0, dv__law_family_0, hb__law_family_0, hd__law_family_0, hdd__law_family_0, hl__law_family_0⟩ := db0 T.b__law_family
  obtain ⟨dl__law_glued_0, dv__law_glued_0, hb__law_glued_0, hd__law_glued_0, hdd__law_glued_0, hl__law_glued_0⟩ := db0 T.b__law_glued
  obtain ⟨dl__law_numbers_0, dv__law_numbers_0, hb__law_numbers_0, hd__law_numbers_0, hdd__law_numbers_0, hl__law_numbers_0⟩ := db0 T.b__law_numbers
  obtain ⟨dl__law_outcome_0, dv__law_outcome_0, hb__law_outcome_0, hd__law_outcome_0, hdd__law_outcome_0, hl__law_outcome_0⟩ := db0 T.b__law_outcome
  obtain ⟨dl__law_things_0, dv__law_things_0, hb__law_things_0, hd__law_things_0, hdd__law_things_0, hl__law_things_0⟩ := db0 T.b__law_things
  refine fn_okD (N := ["_law_script", "_law_draws", "_law_text", "_law_before", "_law_expected", "_law_many", "_law_good", "_law_thing", "_law_bad_here", "_law_gap", "_law_told"]) (ps := ["_law_script"]) (k := 6) (den := d_law) T.F_law sc_law fun cdv Ar outer s H E hr => ?_
  have nd := sc_law.nd
  have hu := hr.units
  have hu1 : (Ar.deeper (envOfC "law" (defScope s_law) s.heap.objs.size (A 17) cdv)).units + 65 < cLine := by have := hr.un; omega
  have hu2 : (Ar.deeper (envOfC "law" (defScope s_law) s.heap.objs.size (A 17) cdv)).units + 1 < cLine := by omega
  have tk : Takes (cxOf (L2.CX P w) P w K mg base ["_law_script", "_law_draws", "_law_text", "_law_before", "_law_expected", "_law_many", "_law_good", "_law_thing", "_law_bad_here", "_law_gap", "_law_told"] "law" (defScope s_law) (A 17) cdv Ar outer s H E) (fun cls d _ H => E cls d H) := takes_of rfl rfl rfl rfl
  have po : PassesOwn (model P w) (Ar.deeper (envOfC "law" (defScope s_law) s.heap.objs.size (A 17) cdv)) (cxOf (L2.CX P w) P w K mg base ["_law_script", "_law_draws", "_law_text", "_law_before", "_law_expected", "_law_many", "_law_good", "_law_thing", "_law_bad_here", "_law_gap", "_law_told"] "law" (defScope s_law) (A 17) cdv Ar outer s H E).env (cxOf (L2.CX P w) P w K mg base ["_law_script", "_law_draws", "_law_text", "_law_before", "_law_expected", "_law_many", "_law_good", "_law_thing", "_law_bad_here", "_law_gap", "_law_told"] "law" (defScope s_law) (A 17) cdv Ar outer s H E).xe := passes_of rfl
  exact (dss_cons (ds_set (i := 1) nd rfl (.inl rfl) (de_call G__law_numbers tk (hr.mono (by decide)) (by rfl) T.f__law_numbers T.F__law_numbers.kp T.b__law_numbers (dar_cons (de_var (pv 0)) (dar_cons di_int.e dar_nil)))) (dss_cons (ds_set (i := 2) nd rfl (.inl rfl) (di_mulS di_str (de_call G__law_draw tk (hr.mono (by decide)) (by rfl) T.f__law_draw T.F__law_draw.kp T.b__law_draw (dar_cons (de_var (pv 1)) (dar_cons di_int.e dar_nil))).i).e) (dss_cons (ds_set (i := 3) nd rfl (.inl rfl) di_str.e) (dss_cons (ds_set (i := 4) nd rfl (.inl rfl) (di_tup (da_cons di_str (da_cons di_int da_nil))).e) (dss_cons (ds_set (i := 5) nd rfl (.inl rfl) di_int.e) (dss_cons (ds_set (i := 6) nd rfl (.inl rfl) di_str.e) (dss_cons (ds_forP po rfl (dpi_seq (de_call G__law_things tk (hr.mono (by decide)) (by rfl) T.f__law_things T.F__law_things.kp T.b__law_things (dar_cons (de_var (pv 1)) dar_nil)).i) (dg_tup rfl (dgs_cons (dg_name (i := 7) nd rfl (.inl rfl)) (dgs_cons (dg_name (i := 8) nd rfl (.inl rfl)) dgs_nil))) (dss_cons (ds_set (i := 9) nd rfl (.inl rfl) (di_mulS di_str (de_call G__law_draw tk (hr.mono (by decide)) (by rfl) T.f__law_draw T.F__law_draw.kp T.b__law_draw (dar_cons (de_var (pv 1)) (dar_cons di_int.e dar_nil))).i).e) (dss_cons (ds_if (dw_and (dt_cmp (op_neD hu) ok_ne (de_var (pv 3)).v di_str.v (nomark _)) (dw_and1 (dt_tru (de_call G__law_glued tk (hr.mono (by decide)) (by rfl) T.f__law_glued T.F__law_glued.kp T.b__law_glued (dar_cons (de_var (pv 3)).i.e (dar_cons (de_var (pv 7)).i.e dar_nil))).v))).t (dss_one (ds_set (i := 9) nd rfl (.inl rfl) di_str.e)) dss_nil) (dss_cons (ds_set (i := 2) nd rfl (.inl rfl) (di_add (de_var (pv 2)).i (de_var (pv 9)).i).e) (dss_cons (ds_if (dw_and (dt_cmp (op_eqD hu) ok_eq (do_ix (de_var (pv 4)).o di_int).v di_str.v (nomark _)) (dw_and1 (dt_cmp (op_eqD hu) ok_eq (de_var (pv 5)).v di_int.v (nomark _)))).t (dss_one (ds_set (i := 4) nd rfl (.inl rfl) (di_tup (da_cons di_str (da_cons (di_callBV call_len ok_len (by rfl) T.n_len (by decide +kernel) (dv_cons (de_var (pv 2)).v dv_nil)) da_nil))).e)) dss_nil) (dss_cons (ds_if (dw_and (dt_cmp (op_eqD hu) ok_eq (do_ix (de_var (pv 4)).o di_int).v di_str.v (nomark _)) (dw_and1 (dt_tru (de_var (pv 8)).v))).t (dss_one (ds_set (i := 4) nd rfl (.inl rfl) (di_tup (da_cons di_str (da_cons (di_callBV call_len ok_len (by rfl) T.n_len (by decide +kernel) (dv_cons (de_var (pv 2)).v dv_nil)) da_nil))).e)) dss_nil) (dss_cons (ds_set (i := 2) nd rfl (.inl rfl) (di_add (de_var (pv 2)).i (de_var (pv 7)).i).e) (dss_cons (ds_if (dw_and (dt_not (dt_tru (de_var (pv 8)).v)) (dw_and1 (dt_cmp op_lt2 ok_lt (de_var (pv 5)).v di_int.v (nomark _)))).t (dss_one (ds_set (i := 6) nd rfl (.inl rfl) (di_add (di_add (de_var (pv 6)).i di_str) (de_var (pv 7)).i).e)) dss_nil) (dss_cons (ds_set (i := 5) nd rfl (.inl rfl) (di_add (de_var (pv 5)).i di_int).e) (dss_one (ds_set (i := 3) nd rfl (.inl rfl) (de_var (pv 7)).i.e))))))))))) (dss_cons (ds_set (i := 10) nd rfl (.inl rfl) (de_call G__law_outcome tk (hr.mono (by decide)) (by rfl) T.f__law_outcome T.F__law_outcome.kp T.b__law_outcome (dar_cons (de_var (pv 2)).i.e dar_nil)).i.e) (dss_cons (ds_if (dw_or (dt_cmp (op_neD hu) ok_ne (do_ix (de_var (pv 10)).o di_int).v (do_ix (de_var (pv 4)).o di_int).v (nomark _)) (dw_or (dt_not (dt_tru (di_callBV call_isi ok_isi (by rfl) T.n_isinstance (by decide +kernel) (dv_cons (do_ix (de_var (pv 10)).o di_int).v (dv_cons (di_ty (by rfl) T.n_int (by decide +kernel)).v dv_nil))).v)) (dw_or (dt_tru (di_callBV call_isi ok_isi (by rfl) T.n_isinstance (by decide +kernel) (dv_cons (do_ix (de_var (pv 10)).o di_int).v (dv_cons (di_ty (by rfl) T.n_bool (by decide +kernel)).v dv_nil))).v) (dw_or1 (dt_cmp (op_neD hu) ok_ne (de_var (pv 10)).v (de_var (pv 4)).v (nomark _)))))).t (dss_one (ds_ret di_bl.e)) dss_nil) (dss_one (ds_ret (di_and (de_call G__law_family tk (hr.mono (by decide)) (by rfl) T.f__law_family T.F__law_family.kp T.b__law_family (dar_cons (de_var (pv 2)).i.e (dar_cons (do_ix (de_var (pv 4)).o di_int).i.e dar_nil))).i (di_one (di_cmp (op_eqD hu) ok_eq (de_call G__law_outcome tk (hr.mono (by decide)) (by rfl) T.f__law_outcome T.F__law_outcome.kp T.b__law_outcome (dar_cons (de_var (pv 6)).i.e dar_nil)).v (di_tup (da_cons di_str (da_cons di_int da_nil))).v (nomark _)))).e)))))))))))
end
theorem all_mk {l : PySem.W.OpenLaw} {w : World} {K : PySem.W.Frag} {h : Heap} {mg : Str → Option Value} {fa : Addr} (X : K.In h) (G : h.Ns mainGlobals mg) (hfa : mg "law" = some (.ref fa))
    {x0 : Addr}
    {x1 : Addr}
    {x2 : Addr}
    {x3 : Addr}
    {x4 : Addr}
    {x5 : Addr}
    {x6 : Addr}
    {x7 : Addr}
    {xn2 xq2 : Str} {xN2 : Addr} {xb2 : List Value} {xs2 : List Str} {xu2 : List Value} {xa2 : Bool} {xc2 : Option Bool} {xd2 : Option Addr} {y02 y12 y22 y32 y52 : Option Value}
    {xn4 xq4 : Str} {xN4 : Addr} {xb4 : List Value} {xs4 : List Str} {xu4 : List Value} {xa4 : Bool} {xc4 : Option Bool} {xd4 : Option Addr} {y04 y14 y24 y34 y54 : Option Value}
    {a0 : Addr} {od0 an0 : Option Addr} {sl0 : Array (Option Value)} {oc0 kV0 dc0 pm0 cd0 ct0 : Value}
    {a1 : Addr} {od1 an1 : Option Addr} {sl1 : Array (Option Value)} {oc1 kV1 dc1 pm1 cd1 ct1 : Value}
    {a2 : Addr} {od2 an2 : Option Addr} {sl2 : Array (Option Value)} {oc2 kV2 dc2 pm2 cd2 ct2 : Value}
    {a3 : Addr} {od3 an3 : Option Addr} {sl3 : Array (Option Value)} {oc3 kV3 dc3 pm3 cd3 ct3 : Value}
    {a4 : Addr} {od4 an4 : Option Addr} {sl4 : Array (Option Value)} {oc4 kV4 dc4 pm4 cd4 ct4 : Value}
    {a5 : Addr} {od5 an5 : Option Addr} {sl5 : Array (Option Value)} {oc5 kV5 dc5 pm5 cd5 ct5 : Value}
    {a6 : Addr} {od6 an6 : Option Addr} {sl6 : Array (Option Value)} {oc6 kV6 dc6 pm6 cd6 ct6 : Value}
    {a7 : Addr} {od7 an7 : Option Addr} {sl7 : Array (Option Value)} {oc7 kV7 dc7 pm7 cd7 ct7 : Value}
    {a8 : Addr} {od8 an8 : Option Addr} {sl8 : Array (Option Value)} {oc8 kV8 dc8 pm8 cd8 ct8 : Value}
    {a9 : Addr} {od9 an9 : Option Addr} {sl9 : Array (Option Value)} {oc9 kV9 dc9 pm9 cd9 ct9 : Value}
    {dT9 : Addr} {dTo9 : Option Addr} {dTc9 : Value} {dTn9 : Nat} {dTs9 : Array (Option Value)}
    {a10 : Addr} {od10 an10 : Option Addr} {sl10 : Array (Option Value)} {oc10 kV10 dc10 pm10 cd10 ct10 : Value}
    {a11 : Addr} {od11 an11 : Option Addr} {sl11 : Array (Option Value)} {oc11 kV11 dc11 pm11 cd11 ct11 : Value}
    {a12 : Addr} {od12 an12 : Option Addr} {sl12 : Array (Option Value)} {oc12 kV12 dc12 pm12 cd12 ct12 : Value}
    {a13 : Addr} {od13 an13 : Option Addr} {sl13 : Array (Option Value)} {oc13 kV13 dc13 pm13 cd13 ct13 : Value}
    {a14 : Addr} {od14 an14 : Option Addr} {sl14 : Array (Option Value)} {oc14 kV14 dc14 pm14 cd14 ct14 : Value}
    {a15 : Addr} {od15 an15 : Option Addr} {sl15 : Array (Option Value)} {oc15 kV15 dc15 pm15 cd15 ct15 : Value}
    {a16 : Addr} {od16 an16 : Option Addr} {sl16 : Array (Option Value)} {oc16 kV16 dc16 pm16 cd16 ct16 : Value}
    {a17 : Addr} {od17 an17 : Option Addr} {sl17 : Array (Option Value)} {oc17 kV17 dc17 pm17 cd17 ct17 : Value}
    {tk29 : Tok}
    {T30 : Addr} {T30d : Option Addr} {T30n : Nat} {T30s : Array (Option Value)}
    {tk31 : Tok}
    {tk32 : Tok}
    {tk33 : Tok}
    {tk34 : Tok}
    {tk35 : Tok}
    {tk36 : Tok}
    {tk37 : Tok}
    (h0 : PySem.W.nsIn K mainGlobals "KeptError" = some (some (.ref x0)))
    (h1 : PySem.W.nsIn K mainGlobals "ScriptError" = some (some (.ref x1)))
    (h2 : PySem.W.nsIn K mainGlobals "BadToken" = some (some (.ref x2)))
    (h3 : PySem.W.nsIn K mainGlobals "BadSyntax" = some (some (.ref x3)))
    (h4 : PySem.W.nsIn K mainGlobals "OverLimit" = some (some (.ref x4)))
    (h5 : PySem.W.nsIn K mainGlobals "BadUse" = some (some (.ref x5)))
    (h6 : PySem.W.nsIn K mainGlobals "DeepTerm" = some (some (.ref x6)))
    (h7 : PySem.W.nsIn K mainGlobals "NoKind" = some (some (.ref x7)))
    (h8 : K.lookup x2 = some (excClassObj xn2 xq2 x2 xN2 xb2 [.ref x1, .ref x0, .type "ValueError", .type "Exception", .type "BaseException", .type "object"] true xs2 xu2 xa2 xc2 xd2 y02 y12 y22 y32 y52 "ValueError.__new__"))
    (h9 : PySem.W.findIn K (.ref x2) "__setattr__" = some (some (.builtin "object.__setattr__")))
    (h10 : PySem.W.findIn K (.ref x2) "what" = some none)
    (h11 : PySem.W.findIn K (.ref x2) "__init__" = some (some (.ref a9)))
    (h12 : PySem.W.keepIn K (.ref x2) = true)
    (h13 : PySem.W.subIn K (.ref x2) (.type "BaseException") = some true)
    (h14 : PySem.W.isClsIn K x2 = true)
    (h15 : PySem.W.typeIn K (.ref x2) = some (.type "type"))
    (h16 : K.lookup x4 = some (excClassObj xn4 xq4 x4 xN4 xb4 [.ref x1, .ref x0, .type "ValueError", .type "Exception", .type "BaseException", .type "object"] true xs4 xu4 xa4 xc4 xd4 y04 y14 y24 y34 y54 "ValueError.__new__"))
    (h17 : PySem.W.findIn K (.ref x4) "__setattr__" = some (some (.builtin "object.__setattr__")))
    (h18 : PySem.W.findIn K (.ref x4) "what" = some none)
    (h19 : PySem.W.findIn K (.ref x4) "__init__" = some (some (.ref a9)))
    (h20 : PySem.W.keepIn K (.ref x4) = true)
    (h21 : PySem.W.subIn K (.ref x4) (.type "BaseException") = some true)
    (h22 : PySem.W.isClsIn K x4 = true)
    (h23 : PySem.W.typeIn K (.ref x4) = some (.type "type"))
    (h24 : PySem.W.findIn K (.ref x4) "__getattribute__" = some (some (.builtin "BaseException.__getattribute__")))
    (h25 : PySem.W.findIn K (.ref x4) "__getattr__" = some none)
    (h26 : PySem.W.hasDictIn K x4 = true)
    (h27 : PySem.W.findIn K (.ref x4) "__class__" = some (some (.builtin "object.__class__")))
    (h28 : PySem.W.specialIn K (.builtin "object.__class__") "__get__" = some (some (.builtin "getset_descriptor.__get__")))
    (h29 : PySem.W.takesIn K (.builtin "object.__class__") = some true)
    (h30 : PySem.W.mroIn K x4 (.type "object") = some true)
    (h31 : PySem.W.findIn K (.ref x2) "__getattribute__" = some (some (.builtin "BaseException.__getattribute__")))
    (h32 : PySem.W.findIn K (.ref x2) "__getattr__" = some none)
    (h33 : PySem.W.hasDictIn K x2 = true)
    (h34 : PySem.W.findIn K (.ref x2) "__class__" = some (some (.builtin "object.__class__")))
    (h35 : PySem.W.mroIn K x2 (.type "object") = some true)
    (h36 : PySem.W.subIn K (.ref x4) (.ref x2) = some false)
    (h37 : PySem.W.subIn K (.ref x2) (.ref x2) = some true)
    (h38 : PySem.W.subIn K (.ref x0) (.type "BaseException") = some true)
    (h39 : PySem.W.isClsIn K x0 = true)
    (h40 : PySem.W.typeIn K (.ref x0) = some (.type "type"))
    (h41 : PySem.W.subIn K (.ref x4) (.ref x0) = some true)
    (h42 : PySem.W.subIn K (.ref x2) (.ref x0) = some true)
    (h43 : PySem.W.subIn K (.ref x4) (.ref x4) = some true)
    (h44 : PySem.W.subIn K (.ref x2) (.ref x4) = some false)
    (h45 : PySem.W.kitOne K (.ref x4) (.ref x3) = some false)
    (h46 : PySem.W.kitOne K (.ref x2) (.ref x3) = some false)
    (h47 : PySem.W.kitOne K (.ref x4) (.ref x2) = some false)
    (h48 : PySem.W.kitOne K (.ref x2) (.ref x2) = some true)
    (h49 : PySem.W.kitOne K (.ref x4) (.ref x5) = some false)
    (h50 : PySem.W.kitOne K (.ref x2) (.ref x5) = some false)
    (h51 : PySem.W.kitOne K (.ref x4) (.ref x6) = some false)
    (h52 : PySem.W.kitOne K (.ref x2) (.ref x6) = some false)
    (h53 : PySem.W.kitOne K (.ref x4) (.ref x7) = some false)
    (h54 : PySem.W.kitOne K (.ref x2) (.ref x7) = some false)
    (h55 : PySem.W.kitOne K (.ref x4) (.ref x4) = some true)
    (h56 : PySem.W.kitOne K (.ref x2) (.ref x4) = some false)
    (h57 : PySem.W.kitOne K (.ref x4) (.ref x1) = some true)
    (h58 : PySem.W.kitOne K (.ref x2) (.ref x1) = some true)
    (h59 : PySem.W.kitOne K (.ref x4) (.type "ValueError") = some true)
    (h60 : PySem.W.kitOne K (.ref x2) (.type "ValueError") = some true)
    (h61 : PySem.W.nsIn K mainGlobals "_law_numbers" = some (some (.ref a0)))
    (h62 : K.lookup a0 = some ⟨oc0, od0, .func (PySem.W.fnOf "_law_numbers" "_law_numbers" (defArgs s__law_numbers) (defBody s__law_numbers) (defScope s__law_numbers) .none kV0 dc0 pm0 an0 cd0 ct0), sl0⟩)
    (h63 : PySem.W.codeIn K cd0 "_law_numbers" = true)
    (h64 : PySem.W.keepIn K (.ref a0) = true)
    (h65 : PySem.W.nsIn K mainGlobals "_law_draw" = some (some (.ref a1)))
    (h66 : K.lookup a1 = some ⟨oc1, od1, .func (PySem.W.fnOf "_law_draw" "_law_draw" (defArgs s__law_draw) (defBody s__law_draw) (defScope s__law_draw) .none kV1 dc1 pm1 an1 cd1 ct1), sl1⟩)
    (h67 : PySem.W.codeIn K cd1 "_law_draw" = true)
    (h68 : PySem.W.keepIn K (.ref a1) = true)
    (h69 : PySem.W.nsIn K mainGlobals "_law_glued" = some (some (.ref a2)))
    (h70 : K.lookup a2 = some ⟨oc2, od2, .func (PySem.W.fnOf "_law_glued" "_law_glued" (defArgs s__law_glued) (defBody s__law_glued) (defScope s__law_glued) .none kV2 dc2 pm2 an2 cd2 ct2), sl2⟩)
    (h71 : PySem.W.codeIn K cd2 "_law_glued" = true)
    (h72 : PySem.W.keepIn K (.ref a2) = true)
    (h73 : PySem.W.nsIn K mainGlobals "_law_big" = some (some (.ref a3)))
    (h74 : K.lookup a3 = some ⟨oc3, od3, .func (PySem.W.fnOf "_law_big" "_law_big" (defArgs s__law_big) (defBody s__law_big) (defScope s__law_big) .none kV3 dc3 pm3 an3 cd3 ct3), sl3⟩)
    (h75 : PySem.W.codeIn K cd3 "_law_big" = true)
    (h76 : PySem.W.keepIn K (.ref a3) = true)
    (h77 : PySem.W.nsIn K mainGlobals "_law_bad" = some (some (.ref a4)))
    (h78 : K.lookup a4 = some ⟨oc4, od4, .func (PySem.W.fnOf "_law_bad" "_law_bad" (defArgs s__law_bad) (defBody s__law_bad) (defScope s__law_bad) .none kV4 dc4 pm4 an4 cd4 ct4), sl4⟩)
    (h79 : PySem.W.codeIn K cd4 "_law_bad" = true)
    (h80 : PySem.W.keepIn K (.ref a4) = true)
    (h81 : PySem.W.nsIn K mainGlobals "_law_word" = some (some (.ref a5)))
    (h82 : K.lookup a5 = some ⟨oc5, od5, .func (PySem.W.fnOf "_law_word" "_law_word" (defArgs s__law_word) (defBody s__law_word) (defScope s__law_word) .none kV5 dc5 pm5 an5 cd5 ct5), sl5⟩)
    (h83 : PySem.W.codeIn K cd5 "_law_word" = true)
    (h84 : PySem.W.keepIn K (.ref a5) = true)
    (h85 : PySem.W.nsIn K mainGlobals "_law_reserved" = some (some (.ref a6)))
    (h86 : K.lookup a6 = some ⟨oc6, od6, .func (PySem.W.fnOf "_law_reserved" "_law_reserved" (defArgs s__law_reserved) (defBody s__law_reserved) (defScope s__law_reserved) .none kV6 dc6 pm6 an6 cd6 ct6), sl6⟩)
    (h87 : PySem.W.codeIn K cd6 "_law_reserved" = true)
    (h88 : PySem.W.keepIn K (.ref a6) = true)
    (h89 : PySem.W.nsIn K mainGlobals "_law_token" = some (some (.ref a7)))
    (h90 : K.lookup a7 = some ⟨oc7, od7, .func (PySem.W.fnOf "_law_token" "_law_token" (defArgs s__law_token) (defBody s__law_token) (defScope s__law_token) .none kV7 dc7 pm7 an7 cd7 ct7), sl7⟩)
    (h91 : PySem.W.codeIn K cd7 "_law_token" = true)
    (h92 : PySem.W.keepIn K (.ref a7) = true)
    (h93 : PySem.W.nsIn K mainGlobals "_law_things" = some (some (.ref a8)))
    (h94 : K.lookup a8 = some ⟨oc8, od8, .func (PySem.W.fnOf "_law_things" "_law_things" (defArgs s__law_things) (defBody s__law_things) (defScope s__law_things) .none kV8 dc8 pm8 an8 cd8 ct8), sl8⟩)
    (h95 : PySem.W.codeIn K cd8 "_law_things" = true)
    (h96 : PySem.W.keepIn K (.ref a8) = true)
    (h97 : PySem.W.typeIn K (.ref a9) = some (.type "function"))
    (h98 : PySem.W.findCls K (.type "ValueError") (.type "type") "__init__" = some (.val (.builtin "ValueError.__init__")))
    (h99 : K.lookup a9 = some ⟨oc9, od9, .func (PySem.W.fnOf "__init__" "KeptError.__init__" (defArgs s_KeptError_init) (defBody s_KeptError_init) (defScope s_KeptError_init) (.ref dT9) kV9 dc9 pm9 an9 cd9 ct9), sl9⟩)
    (h100 : PySem.W.codeIn K cd9 "KeptError.__init__" = true)
    (h101 : PySem.W.keepIn K (.ref a9) = true)
    (h102 : K.lookup dT9 = some ⟨dTc9, dTo9, .seq (#[.none] : Array Value) dTn9, dTs9⟩)
    (h103 : PySem.W.nsIn K mainGlobals "run_of" = some (some (.ref a10)))
    (h104 : K.lookup a10 = some ⟨oc10, od10, .func (PySem.W.fnOf "run_of" "run_of" (defArgs s_run_of) (defBody s_run_of) (defScope s_run_of) .none kV10 dc10 pm10 an10 cd10 ct10), sl10⟩)
    (h105 : PySem.W.codeIn K cd10 "run_of" = true)
    (h106 : PySem.W.keepIn K (.ref a10) = true)
    (h107 : PySem.W.nsIn K mainGlobals "number_at" = some (some (.ref a11)))
    (h108 : K.lookup a11 = some ⟨oc11, od11, .func (PySem.W.fnOf "number_at" "number_at" (defArgs s_number_at) (defBody s_number_at) (defScope s_number_at) .none kV11 dc11 pm11 an11 cd11 ct11), sl11⟩)
    (h109 : PySem.W.codeIn K cd11 "number_at" = true)
    (h110 : PySem.W.keepIn K (.ref a11) = true)
    (h111 : PySem.W.nsIn K mainGlobals "word_at" = some (some (.ref a12)))
    (h112 : K.lookup a12 = some ⟨oc12, od12, .func (PySem.W.fnOf "word_at" "word_at" (defArgs s_word_at) (defBody s_word_at) (defScope s_word_at) .none kV12 dc12 pm12 an12 cd12 ct12), sl12⟩)
    (h113 : PySem.W.codeIn K cd12 "word_at" = true)
    (h114 : PySem.W.keepIn K (.ref a12) = true)
    (h115 : PySem.W.nsIn K mainGlobals "token_at" = some (some (.ref a13)))
    (h116 : K.lookup a13 = some ⟨oc13, od13, .func (PySem.W.fnOf "token_at" "token_at" (defArgs s_token_at) (defBody s_token_at) (defScope s_token_at) .none kV13 dc13 pm13 an13 cd13 ct13), sl13⟩)
    (h117 : PySem.W.codeIn K cd13 "token_at" = true)
    (h118 : PySem.W.keepIn K (.ref a13) = true)
    (h119 : PySem.W.nsIn K mainGlobals "tokens" = some (some (.ref a14)))
    (h120 : K.lookup a14 = some ⟨oc14, od14, .func (PySem.W.fnOf "tokens" "tokens" (defArgs s_tokens) (defBody s_tokens) (defScope s_tokens) .none kV14 dc14 pm14 an14 cd14 ct14), sl14⟩)
    (h121 : PySem.W.codeIn K cd14 "tokens" = true)
    (h122 : PySem.W.keepIn K (.ref a14) = true)
    (h123 : PySem.W.nsIn K mainGlobals "_law_outcome" = some (some (.ref a15)))
    (h124 : K.lookup a15 = some ⟨oc15, od15, .func (PySem.W.fnOf "_law_outcome" "_law_outcome" (defArgs s__law_outcome) (defBody s__law_outcome) (defScope s__law_outcome) .none kV15 dc15 pm15 an15 cd15 ct15), sl15⟩)
    (h125 : PySem.W.codeIn K cd15 "_law_outcome" = true)
    (h126 : PySem.W.keepIn K (.ref a15) = true)
    (h127 : PySem.W.nsIn K mainGlobals "_law_family" = some (some (.ref a16)))
    (h128 : K.lookup a16 = some ⟨oc16, od16, .func (PySem.W.fnOf "_law_family" "_law_family" (defArgs s__law_family) (defBody s__law_family) (defScope s__law_family) .none kV16 dc16 pm16 an16 cd16 ct16), sl16⟩)
    (h129 : PySem.W.codeIn K cd16 "_law_family" = true)
    (h130 : PySem.W.keepIn K (.ref a16) = true)
    (h131 : PySem.W.nsIn K mainGlobals "law" = some (some (.ref a17)))
    (h132 : K.lookup a17 = some ⟨oc17, od17, .func (PySem.W.fnOf "law" "law" (defArgs s_law) (defBody s_law) (defScope s_law) .none kV17 dc17 pm17 an17 cd17 ct17), sl17⟩)
    (h133 : PySem.W.codeIn K cd17 "law" = true)
    (h134 : PySem.W.keepIn K (.ref a17) = true)
    (h135 : PySem.W.nsIn K mainGlobals "DIGITS" = some (some (.str "0123456789" tk29)))
    (h136 : PySem.W.nsIn K mainGlobals "DOUBLE_SIGNS" = some (some (.ref T30)))
    (h137 : K.lookup T30 = some ⟨.type "tuple", T30d, .seq (#[(.str "==" tk31), (.str "<=" tk32)] : Array Value) T30n, T30s⟩)
    (h138 : PySem.W.nsIn K mainGlobals "LETTERS" = some (some (.str "abcdefghijklmnopqrstuvwxyz" tk33)))
    (h139 : PySem.W.nsIn K mainGlobals "MOST" = some (some (.int 1000000000000000 tk34)))
    (h140 : PySem.W.nsIn K mainGlobals "MOST_LETTERS" = some (some (.int 12 tk35)))
    (h141 : PySem.W.nsIn K mainGlobals "MOST_TOKENS" = some (some (.int 200 tk36)))
    (h142 : PySem.W.nsIn K mainGlobals "SIGNS" = some (some (.str "<=+-*()[],;" tk37)))
    (h143 : PySem.W.nsIn K mainGlobals "ValueError" = some none)
    (h144 : PySem.W.nsIn K mainGlobals "abs" = some none)
    (h145 : PySem.W.nsIn K mainGlobals "bool" = some none)
    (h146 : PySem.W.nsIn K mainGlobals "int" = some none)
    (h147 : PySem.W.nsIn K mainGlobals "isinstance" = some none)
    (h148 : PySem.W.nsIn K mainGlobals "len" = some none)
    (h149 : PySem.W.nsIn K mainGlobals "range" = some none)
    (h150 : PySem.W.nsIn K mainGlobals "str" = some none)
    : ∃ (fd : FuncData) (A : Unit), True ∧ (∀ (s : Shared) (v : Value), BindsTo s fd ⟨[v], []⟩ [("_law_script", v)]) ∧ ∀ base : Heap, K.In base → base.Ns mainGlobals mg → FnOk l.prog w K mg base (L2.CX l.prog w) 7 fa fd ["_law_script"] (spD ⟨K, l.prog, w, mg⟩ 1 (fA A)) := by
  have e := hfa.symm.trans (PySem.W.mg_of X G h131)
  cases e
  have T : Txt K mg (fun n => match n with | 0 => a0 | 1 => a1 | 2 => a2 | 3 => a3 | 4 => a4 | 5 => a5 | 6 => a6 | 7 => a7 | 8 => a8 | 9 => a9 | 10 => a10 | 11 => a11 | 12 => a12 | 13 => a13 | 14 => a14 | 15 => a15 | 16 => a16 | 17 => fa | _ => 0) (fun n => match n with | 0 => (PySem.W.fnOf "_law_numbers" "_law_numbers" (defArgs s__law_numbers) (defBody s__law_numbers) (defScope s__law_numbers) .none kV0 dc0 pm0 an0 cd0 ct0) | 1 => (PySem.W.fnOf "_law_draw" "_law_draw" (defArgs s__law_draw) (defBody s__law_draw) (defScope s__law_draw) .none kV1 dc1 pm1 an1 cd1 ct1) | 2 => (PySem.W.fnOf "_law_glued" "_law_glued" (defArgs s__law_glued) (defBody s__law_glued) (defScope s__law_glued) .none kV2 dc2 pm2 an2 cd2 ct2) | 3 => (PySem.W.fnOf "_law_big" "_law_big" (defArgs s__law_big) (defBody s__law_big) (defScope s__law_big) .none kV3 dc3 pm3 an3 cd3 ct3) | 4 => (PySem.W.fnOf "_law_bad" "_law_bad" (defArgs s__law_bad) (defBody s__law_bad) (defScope s__law_bad) .none kV4 dc4 pm4 an4 cd4 ct4) | 5 => (PySem.W.fnOf "_law_word" "_law_word" (defArgs s__law_word) (defBody s__law_word) (defScope s__law_word) .none kV5 dc5 pm5 an5 cd5 ct5) | 6 => (PySem.W.fnOf "_law_reserved" "_law_reserved" (defArgs s__law_reserved) (defBody s__law_reserved) (defScope s__law_reserved) .none kV6 dc6 pm6 an6 cd6 ct6) | 7 => (PySem.W.fnOf "_law_token" "_law_token" (defArgs s__law_token) (defBody s__law_token) (defScope s__law_token) .none kV7 dc7 pm7 an7 cd7 ct7) | 8 => (PySem.W.fnOf "_law_things" "_law_things" (defArgs s__law_things) (defBody s__law_things) (defScope s__law_things) .none kV8 dc8 pm8 an8 cd8 ct8) | 9 => (PySem.W.fnOf "__init__" "KeptError.__init__" (defArgs s_KeptError_init) (defBody s_KeptError_init) (defScope s_KeptError_init) (.ref dT9) kV9 dc9 pm9 an9 cd9 ct9) | 10 => (PySem.W.fnOf "run_of" "run_of" (defArgs s_run_of) (defBody s_run_of) (defScope s_run_of) .none kV10 dc10 pm10 an10 cd10 ct10) | 11 => (PySem.W.fnOf "number_at" "number_at" (defArgs s_number_at) (defBody s_number_at) (defScope s_number_at) .none kV11 dc11 pm11 an11 cd11 ct11) | 12 => (PySem.W.fnOf "word_at" "word_at" (defArgs s_word_at) (defBody s_word_at) (defScope s_word_at) .none kV12 dc12 pm12 an12 cd12 ct12) | 13 => (PySem.W.fnOf "token_at" "token_at" (defArgs s_token_at) (defBody s_token_at) (defScope s_token_at) .none kV13 dc13 pm13 an13 cd13 ct13) | 14 => (PySem.W.fnOf "tokens" "tokens" (defArgs s_tokens) (defBody s_tokens) (defScope s_tokens) .none kV14 dc14 pm14 an14 cd14 ct14) | 15 => (PySem.W.fnOf "_law_outcome" "_law_outcome" (defArgs s__law_outcome) (defBody s__law_outcome) (defScope s__law_outcome) .none kV15 dc15 pm15 an15 cd15 ct15) | 16 => (PySem.W.fnOf "_law_family" "_law_family" (defArgs s__law_family) (defBody s__law_family) (defScope s__law_family) .none kV16 dc16 pm16 an16 cd16 ct16) | 17 => (PySem.W.fnOf "law" "law" (defArgs s_law) (defBody s_law) (defScope s_law) .none kV17 dc17 pm17 an17 cd17 ct17) | _ => (PySem.W.fnOf "_law_numbers" "_law_numbers" (defArgs s__law_numbers) (defBody s__law_numbers) (defScope s__law_numbers) .none kV0 dc0 pm0 an0 cd0 ct0)) (fun n => match n with | 0 => x0 | 1 => x1 | 2 => x2 | 3 => x3 | 4 => x4 | 5 => x5 | 6 => x6 | 7 => x7 | _ => 0) := by
    refine ⟨?_, ?_, ?_, ?_, ?_, ?_, ?_, ?_, ?_, ?_, ?_, ?_, ?_, ?_, ?_, ?_, ?_, ?_, ?_, ?_, ?_, ?_, ?_, ?_, ?_, ?_, ?_, ?_, ?_, ?_, ?_, ?_, ?_, ?_, ?_, ?_, ?_, ?_, ?_, ?_, ?_, ?_, ?_, ?_, ?_, ?_, ?_, ?_, ?_, ?_, ?_, ?_, ?_, ?_, ?_, ?_, ?_, ?_, ?_, ?_, ?_, ?_, ?_, ?_, ?_, ?_, ?_, ?_, ?_, ?_, ?_, ?_, ?_, ?_, ?_, ?_, ?_, ?_, ?_, ?_, ?_, ?_, ?_, ?_, ?_, ?_, ?_, ?_, ?_, ?_⟩
    · exact PySem.W.mg_of X G h0
    · exact PySem.W.mg_of X G h1
    · exact PySem.W.mg_of X G h2
    · exact PySem.W.mg_of X G h3
    · exact PySem.W.mg_of X G h4
    · exact PySem.W.mg_of X G h5
    · exact PySem.W.mg_of X G h6
    · exact PySem.W.mg_of X G h7
    · exact ⟨PySem.W.mg_of X G h2, ⟨⟨_, _, _, _, _, _, _, _, _, _, _, _, _, _, _, h8, rfl⟩, h9, h13, h15, h12⟩, h10, h11⟩
    · exact ⟨PySem.W.mg_of X G h4, ⟨⟨_, _, _, _, _, _, _, _, _, _, _, _, _, _, _, h16, rfl⟩, h17, h21, h23, h20⟩, h18, h19⟩
    · exact (xisT_cons (PySem.W.mg_of X G h2) ⟨⟨h14, ⟨h31, h32, h13, h33⟩, h34, h28, h29, h35⟩, h10⟩ (xisT_cons (PySem.W.mg_of X G h4) ⟨⟨h22, ⟨h24, h25, h21, h26⟩, h27, h28, h29, h30⟩, h18⟩ xisT_nil))
    · exact (subsT_cons (PySem.W.mg_of X G h2) (exm_own h13 h14 h15 h37) (subsT_cons (PySem.W.mg_of X G h4) (exm_own h13 h14 h15 h36) subsT_nil))
    · exact (subsT_cons (PySem.W.mg_of X G h2) (exm_own h38 h39 h40 h42) (subsT_cons (PySem.W.mg_of X G h4) (exm_own h38 h39 h40 h41) subsT_nil))
    · exact (subsT_cons (PySem.W.mg_of X G h2) (exm_own h21 h22 h23 h44) (subsT_cons (PySem.W.mg_of X G h4) (exm_own h21 h22 h23 h43) subsT_nil))
    · exact (kitsT_cons (PySem.W.mg_of X G h2) h46 (kitsT_cons (PySem.W.mg_of X G h4) h45 kitsT_nil))
    · exact (kitsT_cons (PySem.W.mg_of X G h2) h48 (kitsT_cons (PySem.W.mg_of X G h4) h47 kitsT_nil))
    · exact (kitsT_cons (PySem.W.mg_of X G h2) h50 (kitsT_cons (PySem.W.mg_of X G h4) h49 kitsT_nil))
    · exact (kitsT_cons (PySem.W.mg_of X G h2) h52 (kitsT_cons (PySem.W.mg_of X G h4) h51 kitsT_nil))
    · exact (kitsT_cons (PySem.W.mg_of X G h2) h54 (kitsT_cons (PySem.W.mg_of X G h4) h53 kitsT_nil))
    · exact (kitsT_cons (PySem.W.mg_of X G h2) h56 (kitsT_cons (PySem.W.mg_of X G h4) h55 kitsT_nil))
    · exact (kitsT_cons (PySem.W.mg_of X G h2) h58 (kitsT_cons (PySem.W.mg_of X G h4) h57 kitsT_nil))
    · exact (kitsT_cons (PySem.W.mg_of X G h2) h60 (kitsT_cons (PySem.W.mg_of X G h4) h59 kitsT_nil))
    · exact PySem.W.mg_of X G h61
    · exact df_mk h62 h63 h64
    · exact Binds.all fun us hl => match us, hl with | [_, _], _ => rfl
    · exact PySem.W.mg_of X G h65
    · exact df_mk h66 h67 h68
    · exact Binds.all fun us hl => match us, hl with | [_, _], _ => rfl
    · exact PySem.W.mg_of X G h69
    · exact df_mk h70 h71 h72
    · exact Binds.all fun us hl => match us, hl with | [_, _], _ => rfl
    · exact PySem.W.mg_of X G h73
    · exact df_mk h74 h75 h76
    · exact Binds.all fun us hl => match us, hl with | [_], _ => rfl
    · exact PySem.W.mg_of X G h77
    · exact df_mk h78 h79 h80
    · exact Binds.all fun us hl => match us, hl with | [_], _ => rfl
    · exact PySem.W.mg_of X G h81
    · exact df_mk h82 h83 h84
    · exact Binds.all fun us hl => match us, hl with | [_], _ => rfl
    · exact PySem.W.mg_of X G h85
    · exact df_mk h86 h87 h88
    · exact Binds.all fun us hl => match us, hl with | [], _ => rfl
    · exact PySem.W.mg_of X G h89
    · exact df_mk h90 h91 h92
    · exact Binds.all fun us hl => match us, hl with | [_], _ => rfl
    · exact PySem.W.mg_of X G h93
    · exact df_mk h94 h95 h96
    · exact Binds.all fun us hl => match us, hl with | [_], _ => rfl
    · exact h97
    · exact h98
    · exact df_mk h99 h100 h101
    · exact dbinds (st := s_KeptError_init) (ps := ["self", "what"]) (us := [.none]) (dd := [.non]) l.prog w 2 1 h99 h102 (WRs.cons WR.non WRs.nil) h100 h101 (by decide) rfl fun _ _ _ _ _ _ _ us its h1 h2 => match us, its, h1, h2 with | [u0, u1], [d0], _, _ => ⟨_, rfl, rfl⟩
    · exact PySem.W.mg_of X G h103
    · exact df_mk h104 h105 h106
    · exact Binds.all fun us hl => match us, hl with | [_, _, _], _ => rfl
    · exact PySem.W.mg_of X G h107
    · exact df_mk h108 h109 h110
    · exact Binds.all fun us hl => match us, hl with | [_, _], _ => rfl
    · exact PySem.W.mg_of X G h111
    · exact df_mk h112 h113 h114
    · exact Binds.all fun us hl => match us, hl with | [_, _], _ => rfl
    · exact PySem.W.mg_of X G h115
    · exact df_mk h116 h117 h118
    · exact Binds.all fun us hl => match us, hl with | [_, _], _ => rfl
    · exact PySem.W.mg_of X G h119
    · exact df_mk h120 h121 h122
    · exact Binds.all fun us hl => match us, hl with | [_], _ => rfl
    · exact PySem.W.mg_of X G h123
    · exact df_mk h124 h125 h126
    · exact Binds.all fun us hl => match us, hl with | [_], _ => rfl
    · exact PySem.W.mg_of X G h127
    · exact df_mk h128 h129 h130
    · exact Binds.all fun us hl => match us, hl with | [_, _], _ => rfl
    · exact df_mk h132 h133 h134
    · exact ⟨_, PySem.W.mg_of X G h135⟩
    · exact ⟨_, PySem.W.mg_of X G h136, (WR.tup (us := [(.str "==" tk31), (.str "<=" tk32)]) (hz := Nat.le_trans (show 2 ≤ 1000 by decide) (by decide)) h137 (WRs.cons WR.str (WRs.cons WR.str WRs.nil)))⟩
    · exact ⟨_, PySem.W.mg_of X G h138⟩
    · exact ⟨_, PySem.W.mg_of X G h139⟩
    · exact ⟨_, PySem.W.mg_of X G h140⟩
    · exact ⟨_, PySem.W.mg_of X G h141⟩
    · exact ⟨_, PySem.W.mg_of X G h142⟩
    · exact PySem.W.mg_none_of X G h143
    · exact PySem.W.mg_none_of X G h144
    · exact PySem.W.mg_none_of X G h145
    · exact PySem.W.mg_none_of X G h146
    · exact PySem.W.mg_none_of X G h147
    · exact PySem.W.mg_none_of X G h148
    · exact PySem.W.mg_none_of X G h149
    · exact PySem.W.mg_none_of X G h150
  exact ⟨(PySem.W.fnOf "law" "law" (defArgs s_law) (defBody s_law) (defScope s_law) .none kV17 dc17 pm17 an17 cd17 ct17), (), trivial, fun s v => .of_eq rfl, fun base _ _ => ok_law T⟩
end K08

namespace K08
open PySem DL TOK
local macro_rules
  | `(tactic| trivial) => `(tactic| repeat' with_reducible first
    | refine DL.w_seq ?_ | refine DL.w_next ?_ | refine DL.w_if ?_ | refine DL.w_match ?_ | refine DL.pickP_of (by with_unfolding_all decide) ?_ | refine DL.sp_t ?_ | refine DL.sp_f (by with_unfolding_all decide) ?_ | refine DL.sp_n ?_ | refine DL.w_rt ?_ | refine DL.w_set ?_ | refine DL.w_drop ?_ | refine DL.w_app (by with_unfolding_all rfl) ?_ | (refine DL.appP_of (by with_unfolding_all rfl) (by first | assumption | with_unfolding_all exact Nat.le_of_ble_eq_true rfl | (simp only [List.length_append, List.length_map, List.length_cons, List.length_nil]; omega)) ?_; simp only [List.set_cons_succ, List.set_cons_zero, DL.O.flat]) | refine DL.w_forP ?_ | refine DL.w_sforv (by with_unfolding_all rfl) (by with_unfolding_all rfl) ?_ | refine DL.w_asg ?_ | refine DL.w_forV ?_ | refine DL.sqt_if ?_ | refine DL.sqt_rt ?_ | refine DL.sqt_next ?_
    | refine DL.w_frzI (by with_unfolding_all rfl) ?_ | refine DL.w_vwI (by with_unfolding_all rfl) ?_ | refine DL.w_owO (by with_unfolding_all rfl) ?_ | refine DL.w_varI (by with_unfolding_all rfl) ?_ | refine DL.w_varL (by with_unfolding_all rfl) ?_ | refine DL.w_varT (by with_unfolding_all rfl) ?_
    | refine DL.w_vwO (by with_unfolding_all rfl) ?_ | (refine DL.w_frzO (by with_unfolding_all rfl) ?_; simp only [List.set_cons_succ, List.set_cons_zero, DL.O.flat])
    | refine DL.w_pure ?_ | refine DL.w_dq ?_ | refine DL.w_imR ?_ | refine DL.w_imD ?_ | refine DL.w_fl ?_ | refine DL.w_bin ?_ | refine DL.w_cmp ?_ | refine DL.w_rev ?_ | refine DL.w_cat ?_ | refine DL.w_chain ?_ | refine DL.w_dtB ?_ | refine DL.w_dtru ?_
    | refine DL.w_dand ?_ | refine DL.w_dor ?_ | refine DL.w_dnot ?_ | refine DL.w_dandV ?_ | refine DL.w_dorV ?_ | refine DL.w_dnotV ?_ | refine DL.w_dif ?_
    | refine DL.w_dcons ?_ | refine DL.w_dconsV ?_ | refine DL.w_darcons ?_ | (refine DL.w_dtup ?_) | refine DL.w_dlst ?_ | refine DL.w_dixO ?_ | refine DL.w_sq ?_ | refine DL.w_dixX ?_ | refine DL.w_listX ?_ | refine DL.w_sorted ?_ | refine DL.w_un ?_ | refine DL.w_sqC ?_ | refine DL.w_forC ?_ | refine DL.op_fldI (by with_unfolding_all rfl) ?_ | refine DL.w_rg ?_ | refine DL.w_rvO ?_ | refine DL.w_dslice ?_ | refine DL.w_dtmc ?_ | refine DL.w_dtupN ?_ | refine DL.w_dlist ?_ | refine DL.w_dtuple ?_ | refine DL.w_tupV ?_ | refine DL.w_listV ?_
    | refine DL.w_bind ?_ | refine DL.w_lift ?_ | refine DL.w_frz ?_ | refine DL.w_vw ?_ | refine DL.w_ow ?_
    | refine DL.frzP_im ?_ | refine DL.frzP_new ?_ | refine DL.vwP_im ?_ | refine DL.vwP_new ?_ | refine DL.vwP_bor ?_ | refine DL.owP_im ?_ | refine DL.owP_new ?_ | refine DL.owP_bor ?_
    | (refine DL.setP_im (by with_unfolding_all first | rfl | exact DL.fo_free rfl) ?_; simp only [List.set_cons_succ, List.set_cons_zero, DL.O.flat]) | (refine DL.setP_new (by with_unfolding_all first | rfl | exact DL.fo_free rfl) ?_; simp only [List.set_cons_succ, List.set_cons_zero, DL.O.flat])
    | refine DL.argP_im ?_ | refine DL.argP_new ?_ | refine DL.argP_bor ?_ | refine DL.rvP_im ?_ | refine DL.rvP_new ?_ | refine DL.mvP_im ?_ | refine DL.mvP_new ?_ | (refine DL.mvP_bor (by with_unfolding_all rfl) ?_; simp only [List.set_cons_succ, List.set_cons_zero]) | refine DL.itP_im ?_ | refine DL.itP_new ?_ | refine DL.tuP_lst ?_ | refine DL.blP_of ?_
    | refine DL.op_rng (by with_unfolding_all decide) ?_ | refine DL.op_rngG ?_ | refine DL.op_isiII ?_ | refine DL.op_isiIB ?_ | refine DL.op_isiTT ?_ | refine DL.op_isiLL ?_
    | refine DL.op_eq ?_ | refine DL.op_ne ?_ | refine DL.br_t ?_ | refine DL.br_f ?_ | refine DL.br_not ?_ | refine DL.br_eqT (by with_unfolding_all rfl) ?_ | refine DL.br_eqF (by with_unfolding_all rfl) ?_
    | refine DL.sz (by with_unfolding_all exact Nat.le_of_ble_eq_true rfl) ?_
    | refine DL.outI_im (by with_unfolding_all exact Nat.le_of_ble_eq_true rfl) ?_ | refine DL.outI_new (by with_unfolding_all exact Nat.le_of_ble_eq_true rfl) ?_ | refine DL.outI_bor (by with_unfolding_all exact Nat.le_of_ble_eq_true rfl) (by with_unfolding_all rfl) ?_
    | refine DL.op_mod (by with_unfolding_all decide) ?_ | refine DL.op_div (by with_unfolding_all decide) ?_ | refine DL.op_mul (DL.mul_r (by with_unfolding_all decide)) ?_ | refine DL.op_mul (DL.mul_l (by with_unfolding_all decide)) ?_ | refine DL.op_pow (by with_unfolding_all decide) ?_
    | refine DL.w_op (by with_unfolding_all rfl) ?_ | rfl)

theorem run_ok {x : List Nat} {p : Nat} {z : Str} (hp : p ≤ x.length) (hz : x.length ≤ 20000) : FI f_run_of [.str (S x), .int p, .str z] (· = .im (.str (S ((x.drop p).takeWhile fun c => decide (c ∈ z.cps.toList))))) := by
  refine w_fi ?_
  unfold d_run_of
  show SW _ [some (false, .im _), some (false, .im _), some (false, .im _), none] _
  trivial
  refine w_cut (fun e => ∃ q, e = [some (false, .im (.str (S x))), some (false, .im (.int p)), some (false, .im (.str z)), some (false, .im (.int ((p + q : Nat) : Int)))] ∧ p + q ≤ x.length ∧ (∀ c ∈ (x.drop p).take q, decide (c ∈ z.cps.toList) = true) ∧ ∀ c, ((x.drop p).drop q).head? = some c → decide (c ∈ z.cps.toList) = false) ?_ ?_
  · refine sw_while (fun k e => ∃ q, e = [some (false, .im (.str (S x))), some (false, .im (.int p)), some (false, .im (.str z)), some (false, .im (.int ((p + q : Nat) : Int)))] ∧ p + q ≤ x.length ∧ k = x.length - (p + q) ∧ ∀ c ∈ (x.drop p).take q, decide (c ∈ z.cps.toList) = true) ?_ 1000000 (x.length - p) _ (by omega) ⟨0, rfl, by omega, by omega, fun c hc => by rw [List.take_zero] at hc; cases hc⟩
    rintro k e ⟨q, rfl, hq, rfl, hall⟩
    trivial
    refine op_lenS (by omega) ?_
    trivial
    refine br_dec (fun h => ?_) (fun h => ?_)
    · have h : p + q < x.length := by omega
      trivial
      refine op_at h (by omega) ?_
      trivial
      have hx : (x.drop p).drop q = x[p + q] :: (x.drop p).drop (q + 1) := by
        rw [List.drop_drop, List.drop_drop, List.drop_eq_getElem_cons h]
        rfl
      refine br_sg ?_
      refine br_dec (fun hc => ?_) (fun hc => ?_)
      · refine ⟨x.length - (p + (q + 1)), by omega, ?_⟩
        trivial
        refine ⟨q + 1, rfl, by omega, rfl, fun c hc' => ?_⟩
        have ht : (x.drop p).take (q + 1) = (x.drop p).take q ++ [x[p + q]] := by
          rw [List.take_add_one, ← List.head?_drop, hx]
          rfl
        rw [ht] at hc'
        rcases List.mem_append.mp hc' with m | m
        · exact hall c m
        · rw [List.mem_singleton.mp m]
          exact decide_eq_true hc
      · refine ⟨q, rfl, hq, hall, fun c hc' => ?_⟩
        rw [hx] at hc'
        cases hc'
        exact decide_eq_false hc
    · have h : ¬ p + q < x.length := by omega
      trivial
      refine ⟨q, rfl, hq, hall, fun c hc' => ?_⟩
      rw [List.drop_drop, List.drop_eq_nil_of_le (by omega)] at hc'
      cases hc'
  · rintro e ⟨q, rfl, hq, hall, hend⟩
    have e1 := while_take (p := fun c => decide (c ∈ z.cps.toList)) hall hend (by rw [List.length_drop]; omega)
    trivial
    refine w_op (z := .im (.str (S ((x.drop p).take q)))) (by
      show (if (S x).length ≤ sizeLine then some (Rv.im (.str (L2.cutS (S x) (some (p : Int)) (some ((p + q : Nat) : Int))))) else none) = _
      rw [if_pos (by rw [S_len]; exact Nat.le_trans hz (by decide)), cutS_eq hp, show p + q - p = q by omega]) ?_
    trivial
    rw [e1]
theorem number_ok {x : List Nat} {p : Nat} {t r : List Nat} (hd : x.drop p = t ++ r) (hp : p ≤ x.length) (hz : x.length ≤ 20000) (ht : numT t) (hf : ∀ c, r.head? = some c → dig c = false) : FI f_number_at [.str (S x), .int p] (· = .im (.str (S t))) := by
  have hw : (x.drop p).takeWhile (fun c => decide (c ∈ (Str.ofString "0123456789").cps.toList)) = t := by
    rw [hd]
    exact while_app (fun c hc => by rw [mem_dig]; exact ht.2.1 c hc) (fun c hc => by rw [mem_dig]; exact hf c hc)
  have hr := run_ok (z := Str.ofString "0123456789") hp hz
  rw [hw] at hr
  have hlen := ht.2.2.2.1
  have hpos : 0 < t.length := List.length_pos_iff.mpr ht.1
  obtain ⟨n, hn1, hn2⟩ := ht.2.2.2.2
  refine w_fi ?_
  unfold d_number_at
  show SW _ [some (false, .im _), some (false, .im _), none] _
  trivial
  refine w_callI (ds := [.str _, .int _, .str _]) hr rfl ?_
  trivial
  have ok1 : OP (intS [.str (S t)]) (· = .int n) := ⟨.int n, by show (if (S t).length ≤ 640 then (intText? (S t)).map D.int else none) = _; rw [if_pos (by rw [S_len]; omega), hn1]; rfl, rfl⟩
  obtain ⟨_, hok, rfl⟩ := ok1
  refine op_at (i := 0) hpos (by omega) ?_
  trivial
  refine op_eqS (m := [48]) (fun c hc => by rw [List.mem_singleton.mp hc]; have := dig_lt (ht.2.1 _ (List.getElem_mem hpos)); omega) (ok_one (by omega)) ?_
  trivial
  refine br_dec (fun h => ?_) (fun h => ?_)
  · have h1 : t.length = 1 := ht.2.2.1 (by
      rw [List.head?_eq_getElem?, List.getElem?_eq_getElem hpos]
      injection h with h
      rw [h])
    trivial
    refine op_lenS (by omega) ?_
    trivial
    refine br_dec (fun h => ?_) (fun h => ?_)
    · omega
    trivial
    refine w_op hok ?_
    trivial
    refine br_dec (fun h => ?_) (fun h => ?_)
    · omega
    trivial
  · trivial
    refine w_op hok ?_
    trivial
    refine br_dec (fun h => ?_) (fun h => ?_)
    · omega
    trivial
theorem word_ok {x : List Nat} {p : Nat} {t r : List Nat} (hd : x.drop p = t ++ r) (hp : p ≤ x.length) (hz : x.length ≤ 20000) (ht : wordT t) (hf : ∀ c, r.head? = some c → ltr c = false) : FI f_word_at [.str (S x), .int p] (· = .im (.str (S t))) := by
  have hw : (x.drop p).takeWhile (fun c => decide (c ∈ (Str.ofString "abcdefghijklmnopqrstuvwxyz").cps.toList)) = t := by
    rw [hd]
    exact while_app (fun c hc => by rw [mem_ltr]; exact ht.2.1 c hc) (fun c hc => by rw [mem_ltr]; exact hf c hc)
  have hr := run_ok (z := Str.ofString "abcdefghijklmnopqrstuvwxyz") hp hz
  rw [hw] at hr
  have hlen := ht.2.2
  refine w_fi ?_
  unfold d_word_at
  show SW _ [some (false, .im _), some (false, .im _), none] _
  trivial
  refine w_callI (ds := [.str _, .int _, .str _]) hr rfl ?_
  trivial
  refine op_lenS (by omega) ?_
  trivial
  refine br_dec (fun h => ?_) (fun h => ?_)
  · omega
  trivial
theorem token_ok {x : List Nat} {p : Nat} {t r : List Nat} (hx : x.drop p = t ++ r) (hz : x.length ≤ 20000) (ht : Tok t) (hf : fol t r) : FI f_token_at [.str (S x), .int p] (· = .im (.str (S t))) := by
  obtain ⟨t', et⟩ := ht.cons
  have hlt : p < x.length := by
    refine Classical.byContradiction fun h => ?_
    rw [List.drop_eq_nil_of_le (by omega)] at hx
    rw [et] at hx
    cases hx
  have hc : x[p] = hd t := by
    have h1 := List.drop_eq_getElem_cons hlt
    rw [hx] at h1
    cases t with
    | nil => exact absurd rfl ht.ne
    | cons c t =>
      injection h1 with h1
      exact h1.symm
  refine w_fi ?_
  unfold d_token_at
  show SW _ [some (false, .im _), some (false, .im _)] _
  trivial
  refine op_at hlt (by omega) ?_
  rw [hc]
  trivial
  refine br_dg ?_
  refine br_of (fun h => ?_) (fun hd0 => ?_)
  · have hn : numT t := by
      rcases ht with ht | ht | ht
      · exact ht
      · rw [ltr_dig (Tok.hd_word ht)] at h; cases h
      · rw [(Tok.hd_sign ht).2.1] at h; cases h
    trivial
    refine w_callI (ds := [.str _, .int _]) (number_ok hx (by omega) hz hn (hf.1 hn)) rfl ?_
    trivial
  trivial
  refine op_at hlt (by omega) ?_
  rw [hc]
  trivial
  refine br_lt ?_
  refine br_of (fun h => ?_) (fun hl0 => ?_)
  · have hw : wordT t := by
      rcases ht with ht | ht | ht
      · rw [dig_ltr (Tok.hd_num ht)] at h; cases h
      · exact ht
      · rw [(Tok.hd_sign ht).2.2] at h; cases h
    trivial
    refine w_callI (ds := [.str _, .int _]) (word_ok hx (by omega) hz hw (hf.2.1 hw)) rfl ?_
    trivial
  have hs : t ∈ signL := by
    rcases ht with ht | ht | ht
    · rw [Tok.hd_num ht] at hd0; cases hd0
    · rw [Tok.hd_word ht] at hl0; cases hl0
    · exact ht
  trivial
  refine op_slice (b := p + 2) (by omega) (by omega) (by omega) ?_
  rw [hx, show p + 2 - p = 2 by omega]
  trivial
  refine br_db ?_
  refine br_dec (fun h => ?_) (fun h => ?_)
  · have h2 := (two_sign hs hf).mp h
    trivial
    refine op_slice (b := p + 2) (by omega) (by omega) (by omega) ?_
    rw [hx, show p + 2 - p = 2 by omega, sign_two hs h2]
    trivial
  · have h2 : ¬ (t = [61, 61] ∨ t = [60, 61]) := fun z => h ((two_sign hs hf).mpr z)
    trivial
    refine op_at hlt (by omega) ?_
    rw [hc]
    trivial
    refine br_si ?_
    refine br_dec (fun h => ?_) (fun h => absurd (Tok.hd_sign hs).1 h)
    trivial
    refine op_at hlt (by omega) ?_
    rw [hc, ← sign_one hs h2]
    trivial
theorem tokens_ok {x : List Nat} {g : Nat} {l : List Sg} {f : Nat} (hx : x = List.replicate g 32 ++ txt l f) (hz : x.length ≤ 20000) (hG : Good l f) (hl : l.length ≤ 200) : FI f_tokens [.str (S x)] (· = .new (.lst ((ex g l).map fun q => O.im (tkD q)))) := by
  refine w_fi ?_
  unfold d_tokens
  show SW _ [some (false, .im _), none, none, none] _
  trivial
  refine w_cut (fun e => ∃ p s3, e = [some (false, .im (.str (S x))), some (false, .lst ((ex g l).map fun q => O.im (tkD q))), some (false, .im (.int (p : Nat))), fo s3]) ?_ ?_
  · refine sw_while (fun k e => ∃ (p : Nat) (F : List (List Nat × Nat)) (g' : Nat) (l' : List Sg) (f' : Nat) (s3 : Option O), e = [some (false, .im (.str (S x))), some (false, .lst (F.map fun q => O.im (tkD q))), some (false, .im (.int (p : Nat))), fo s3] ∧ p ≤ x.length ∧ k = x.length - p ∧ x.drop p = List.replicate g' 32 ++ txt l' f' ∧ Good l' f' ∧ F ++ ex (p + g') l' = ex g l) ?_ 1000000 x.length _ (by omega) ⟨0, [], g, l, f, none, rfl, by omega, by omega, hx, hG, by rw [Nat.zero_add]; rfl⟩
    rintro k e ⟨p, F, g', l', f', s3, rfl, hp, rfl, hd, hG', hF⟩
    trivial
    refine op_lenS (by omega) ?_
    trivial
    refine br_dec (fun h => ?_) (fun h => ?_)
    · have hlt : p < x.length := by omega
      have hne : List.replicate g' 32 ++ txt l' f' ≠ [] := fun e => by
        rw [e, List.drop_eq_nil_iff] at hd
        omega
      have hcons := List.drop_eq_getElem_cons hlt
      have hox : ∀ c ∈ x, c < 128 := by
        rw [hx]
        exact ok_app (ok_rep _) (ok_txt hG)
      rcases step hG' hne with ⟨g2, l2, f2, e2, hG2, hex⟩ | ⟨rfl, t, r, rfl⟩
      · rw [hd, e2] at hcons
        injection hcons with hc1 hc2
        refine ⟨x.length - (p + 1), by omega, ?_⟩
        trivial
        refine op_at hlt (by omega) ?_
        rw [← hc1]
        trivial
        exact ⟨p + 1, F, g2, l2, f2, s3, rfl, by omega, rfl, hc2.symm, hG2, by rw [hex]; exact hF⟩
      · obtain ⟨ht, hfol, hGr⟩ := hG'
        obtain ⟨t', et⟩ := ht.cons
        have hd : x.drop p = t ++ txt r f' := hd
        have hc1 : x[p] = TOK.hd t := by
          rw [hd, et] at hcons
          injection hcons with h1 h2
          rw [← h1]
        have hFl : F.length + (1 + r.length) = l.length := by
          have := congrArg List.length hF
          rw [List.length_append, ex_len, ex_len] at this
          rw [← this]
          show _ = F.length + (r.length + 1)
          omega
        have len : (F.map fun q => O.im (tkD q)).length < sizeLine := by
          rw [List.length_map]
          exact Nat.lt_of_lt_of_le (show _ < 1000 by omega) (by decide)
        have hlen : p + t.length ≤ x.length := by
          have := congrArg List.length hd
          rw [List.length_drop, List.length_append] at this
          omega
        refine ⟨x.length - (p + t.length), by rw [et]; show _ - (p + (t'.length + 1)) < _; rw [et] at hlen; have : p + (t'.length + 1) ≤ x.length := hlen; omega, ?_⟩
        trivial
        refine op_at hlt (by omega) ?_
        rw [hc1]
        trivial
        refine op_eqS (m := [32]) (ok_one (by rw [← hc1]; exact hox _ (List.getElem_mem hlt))) (ok_one (by omega)) ?_
        trivial
        refine br_dec (fun z => absurd z (fun z => ht.hd_ne (List.cons.inj z).1)) (fun _ => ?_)
        trivial
        rw [flats_map, List.length_map]
        refine br_dec (fun z => ?_) (fun _ => ?_)
        · omega
        trivial
        refine w_callI (ds := [.str _, .int _]) (token_ok hd hz ht hfol) rfl ?_
        trivial
        refine op_lenS (by have := ht.len; omega) ?_
        trivial
        refine ⟨p + t.length, F ++ [(t, p)], 0, r, f', some (.im (.str (S t))), by rw [List.map_append]; rfl, hlen, rfl, ?_, hGr, ?_⟩
        · rw [← List.drop_drop, hd, List.drop_left]
          rfl
        · rw [List.append_assoc, ← hF]
          rfl
    · trivial
      have : p = x.length := by omega
      subst this
      rw [List.drop_length] at hd
      have hl' : l' = [] := by
        cases l' with
        | nil => rfl
        | cons y r =>
          obtain ⟨h, t⟩ := y
          have hh := congrArg List.length hd
          have hr : txt ((h, t) :: r) f' = List.replicate h 32 ++ (t ++ txt r f') := rfl
          rw [hr, List.length_append, List.length_append, List.length_append] at hh
          have := List.length_pos_iff.mpr hG'.1.ne
          have h0 : ([] : List Nat).length = 0 := rfl
          omega
      subst hl'
      have hF : F = ex g l := by rw [← hF]; exact (List.append_nil _).symm
      subst hF
      exact ⟨x.length, s3, rfl⟩
  · rintro e ⟨p, s3, rfl⟩
    trivial
end K08

namespace K08
open PySem DL TOK
local macro_rules
  | `(tactic| trivial) => `(tactic| repeat' with_reducible first
    | refine DL.w_seq ?_ | refine DL.w_next ?_ | refine DL.w_if ?_ | refine DL.w_match ?_ | refine DL.pickP_of (by with_unfolding_all decide) ?_ | refine DL.sp_t ?_ | refine DL.sp_f (by with_unfolding_all decide) ?_ | refine DL.sp_n ?_ | refine DL.w_rt ?_ | refine DL.w_set ?_ | refine DL.w_drop ?_ | refine DL.w_app (by with_unfolding_all rfl) ?_ | (refine DL.appP_of (by with_unfolding_all rfl) (by first | assumption | with_unfolding_all exact Nat.le_of_ble_eq_true rfl | (simp only [List.length_append, List.length_map, List.length_cons, List.length_nil]; omega)) ?_; simp only [List.set_cons_succ, List.set_cons_zero, DL.O.flat]) | refine DL.w_forP ?_ | refine DL.w_sforv (by with_unfolding_all rfl) (by with_unfolding_all rfl) ?_ | refine DL.w_asg ?_ | refine DL.w_forV ?_ | refine DL.sqt_if ?_ | refine DL.sqt_rt ?_ | refine DL.sqt_next ?_
    | refine DL.w_frzI (by with_unfolding_all rfl) ?_ | refine DL.w_vwI (by with_unfolding_all rfl) ?_ | refine DL.w_owO (by with_unfolding_all rfl) ?_ | refine DL.w_varI (by with_unfolding_all rfl) ?_ | refine DL.w_varL (by with_unfolding_all rfl) ?_ | refine DL.w_varT (by with_unfolding_all rfl) ?_
    | refine DL.w_vwO (by with_unfolding_all rfl) ?_ | (refine DL.w_frzO (by with_unfolding_all rfl) ?_; simp only [List.set_cons_succ, List.set_cons_zero, DL.O.flat])
    | refine DL.w_pure ?_ | refine DL.w_dq ?_ | refine DL.w_imR ?_ | refine DL.w_imD ?_ | refine DL.w_fl ?_ | refine DL.w_bin ?_ | refine DL.w_cmp ?_ | refine DL.w_rev ?_ | refine DL.w_cat ?_ | refine DL.w_chain ?_ | refine DL.w_dtB ?_ | refine DL.w_dtru ?_
    | refine DL.w_dand ?_ | refine DL.w_dor ?_ | refine DL.w_dnot ?_ | refine DL.w_dandV ?_ | refine DL.w_dorV ?_ | refine DL.w_dnotV ?_ | refine DL.w_dif ?_
    | refine DL.w_dcons ?_ | refine DL.w_dconsV ?_ | refine DL.w_darcons ?_ | (refine DL.w_dtup ?_) | refine DL.w_dlst ?_ | refine DL.w_dixO ?_ | refine DL.w_sq ?_ | refine DL.w_dixX ?_ | refine DL.w_listX ?_ | refine DL.w_sorted ?_ | refine DL.w_un ?_ | refine DL.w_sqC ?_ | refine DL.w_forC ?_ | refine DL.op_fldI (by with_unfolding_all rfl) ?_ | refine DL.w_rg ?_ | refine DL.w_rvO ?_ | refine DL.w_dslice ?_ | refine DL.w_dtmc ?_ | refine DL.w_dtupN ?_ | refine DL.w_dlist ?_ | refine DL.w_dtuple ?_ | refine DL.w_tupV ?_ | refine DL.w_listV ?_
    | refine DL.w_bind ?_ | refine DL.w_lift ?_ | refine DL.w_frz ?_ | refine DL.w_vw ?_ | refine DL.w_ow ?_
    | refine DL.frzP_im ?_ | refine DL.frzP_new ?_ | refine DL.vwP_im ?_ | refine DL.vwP_new ?_ | refine DL.vwP_bor ?_ | refine DL.owP_im ?_ | refine DL.owP_new ?_ | refine DL.owP_bor ?_
    | (refine DL.setP_im (by with_unfolding_all first | rfl | exact DL.fo_free rfl) ?_; simp only [List.set_cons_succ, List.set_cons_zero, DL.O.flat]) | (refine DL.setP_new (by with_unfolding_all first | rfl | exact DL.fo_free rfl) ?_; simp only [List.set_cons_succ, List.set_cons_zero, DL.O.flat])
    | refine DL.argP_im ?_ | refine DL.argP_new ?_ | refine DL.argP_bor ?_ | refine DL.rvP_im ?_ | refine DL.rvP_new ?_ | refine DL.mvP_im ?_ | refine DL.mvP_new ?_ | (refine DL.mvP_bor (by with_unfolding_all rfl) ?_; simp only [List.set_cons_succ, List.set_cons_zero]) | refine DL.itP_im ?_ | refine DL.itP_new ?_ | refine DL.tuP_lst ?_ | refine DL.blP_of ?_
    | refine DL.op_rng (by with_unfolding_all decide) ?_ | refine DL.op_rngG ?_ | refine DL.op_isiII ?_ | refine DL.op_isiIB ?_ | refine DL.op_isiTT ?_ | refine DL.op_isiLL ?_
    | refine DL.op_eq ?_ | refine DL.op_ne ?_ | refine DL.br_t ?_ | refine DL.br_f ?_ | refine DL.br_not ?_ | refine DL.br_eqT (by with_unfolding_all rfl) ?_ | refine DL.br_eqF (by with_unfolding_all rfl) ?_
    | refine DL.sz (by with_unfolding_all exact Nat.le_of_ble_eq_true rfl) ?_
    | refine DL.outI_im (by with_unfolding_all exact Nat.le_of_ble_eq_true rfl) ?_ | refine DL.outI_new (by with_unfolding_all exact Nat.le_of_ble_eq_true rfl) ?_ | refine DL.outI_bor (by with_unfolding_all exact Nat.le_of_ble_eq_true rfl) (by with_unfolding_all rfl) ?_
    | refine DL.op_mod (by with_unfolding_all decide) ?_ | refine DL.op_div (by with_unfolding_all decide) ?_ | refine DL.op_mul (DL.mul_r (by with_unfolding_all decide)) ?_ | refine DL.op_mul (DL.mul_l (by with_unfolding_all decide)) ?_ | refine DL.op_pow (by with_unfolding_all decide) ?_
    | refine DL.w_op (by with_unfolding_all rfl) ?_ | rfl)

/-! ### draws -/
abbrev dl (ds : List Int) : O := .lst (ds.map fun n => O.im (.int n))
def nn (ds : List Int) : Prop := ∀ d ∈ ds, 0 ≤ d
theorem fm (a : Int) {b : Int} (h : 0 < b) : 0 ≤ a.fmod b ∧ a.fmod b < b := ⟨Int.fmod_nonneg_of_pos a h, Int.fmod_lt_of_pos a h⟩
theorem draw_ok {ds : List Int} {m : Int} (h : nn ds) (hm : 0 < m) (hm2 : m < 1000000) : FO f__law_draw [dl ds, .im (.int m)] fun os' r => ∃ ds' k, os' = [dl ds', .im (.int m)] ∧ nn ds' ∧ r = .im (.int k) ∧ 0 ≤ k ∧ k < m := by
  refine w_fun ?_
  unfold d__law_draw
  show SW _ [some (true, _), some (false, _)] _
  trivial
  rw [flats_map, List.length_map]
  refine br_dec (fun h0 => ?_) (fun h0 => ?_)
  · trivial
    exact ⟨_, rfl, ds, 0, rfl, h, rfl, by omega, hm⟩
  · have hl : 0 < ds.length := by omega
    trivial
    refine w_pop rfl (d := .int (ds[ds.length - 1])) ?_ ?_
    · rw [List.length_map, List.getElem?_map, List.getElem?_eq_getElem (by omega)]
      rfl
    trivial
    have f := fm ds[ds.length - 1] hm
    refine op_mod (by omega) ?_
    trivial
    refine ⟨_, rfl, ds.dropLast, _, ?_, fun d hd => h d (List.dropLast_subset _ hd), rfl, f.1, f.2⟩
    unfold dl
    rw [List.map_dropLast]
theorem big_ok {ds : List Int} (h : nn ds) : FO f__law_big [dl ds] fun os' r => ∃ ds' k, os' = [dl ds'] ∧ nn ds' ∧ r = .im (.int k) ∧ 0 ≤ k := by
  refine w_fun ?_
  unfold d__law_big
  show SW _ [some (true, _), none, none] _
  trivial
  refine sw_range (n := 6) (fun i e => ∃ ds k s2, e = [some (true, dl ds), some (false, .im (.int k)), fo s2] ∧ nn ds ∧ 0 ≤ k) ⟨ds, 0, none, rfl, h, by omega⟩ ?_ ?_
  · rintro i e hi ⟨ds, k, s2, rfl, h, hk⟩
    refine ⟨[some (true, dl ds), some (false, .im (.int k)), some (false, .im (.int i))], by cases s2 <;> rfl, ?_⟩
    trivial
    refine w_fo (draw_ok h (m := 1000) (by omega) (by omega)) rfl rfl (.inl rfl) ?_
    rintro os' r ⟨ds', v, rfl, h', rfl, h0, h1⟩
    refine ⟨_, rfl, ?_⟩
    simp only [List.set_cons_succ, List.set_cons_zero, rvF]
    trivial
    exact ⟨ds', _, some _, rfl, h', by omega⟩
  · rintro e ⟨ds, k, s2, rfl, h, hk⟩
    trivial
    exact ⟨_, rfl, ds, k, rfl, h, rfl, hk⟩
theorem lsD {k : Int} {n : Nat} (h0 : 0 ≤ k) (h1 : k < n) : ∃ i : Nat, i < n ∧ k = (i : Int) := ⟨k.toNat, by omega, by omega⟩
theorem op_ltr {k : Int} {P : D → Prop} (h0 : 0 ≤ k) (h1 : k < 26) (p : ∀ c, ltr c = true → P (.str (S [c]))) : OP (elemD (.str (Str.ofString "abcdefghijklmnopqrstuvwxyz")) (.int k)) P := by
  obtain ⟨i, hi, rfl⟩ := lsD (n := 26) h0 h1
  refine ⟨.str (S [97 + i]), ?_, p _ (decide_eq_true (by omega))⟩
  rcases (by omega : i = 0 ∨ i = 1 ∨ i = 2 ∨ i = 3 ∨ i = 4 ∨ i = 5 ∨ i = 6 ∨ i = 7 ∨ i = 8 ∨ i = 9 ∨ i = 10 ∨ i = 11 ∨ i = 12 ∨ i = 13 ∨ i = 14 ∨ i = 15 ∨ i = 16 ∨ i = 17 ∨ i = 18 ∨ i = 19 ∨ i = 20 ∨ i = 21 ∨ i = 22 ∨ i = 23 ∨ i = 24 ∨ i = 25) with rfl | rfl | rfl | rfl | rfl | rfl | rfl | rfl | rfl | rfl | rfl | rfl | rfl | rfl | rfl | rfl | rfl | rfl | rfl | rfl | rfl | rfl | rfl | rfl | rfl | rfl <;> rfl
theorem op_cat {l m : List Nat} {P : D → Prop} (hz : l.length + m.length ≤ 20000) (p : P (.str (S (l ++ m)))) : OP (addD (.str (S l)) (.str (S m))) P := ⟨.str (S (l ++ m)), by
  show (if (S l).length + (S m).length ≤ sizeLine then some (D.str (S l ++ S m)) else none) = _
  rw [S_len, S_len, if_pos (Nat.le_trans hz (by decide)), S_app], p⟩
theorem word2_ok {ds : List Int} (h : nn ds) : FO f__law_word [dl ds] fun os' r => ∃ ds' t, os' = [dl ds'] ∧ nn ds' ∧ r = .im (.str (S t)) ∧ wordT t := by
  refine w_fun ?_
  unfold d__law_word
  show SW _ [some (true, _), none, none, none, none] _
  refine w_seqM (fun e => e = [some (true, dl ds), some (false, .im (.str (Str.ofString "abcdefghijklmnopqrstuvwxyz"))), none, none, none]) ?_ ?_
  · trivial
  rintro e rfl
  refine w_seqM (fun e => ∃ (ds : List Int) (m : Nat), e = [some (true, dl ds), some (false, .im (.str (Str.ofString "abcdefghijklmnopqrstuvwxyz"))), some (false, .im (.int m)), none, none] ∧ nn ds ∧ 1 ≤ m ∧ m ≤ 12) ?_ ?_
  · trivial
    refine w_fo (draw_ok h (m := 12) (by omega) (by omega)) rfl rfl (.inl rfl) ?_
    rintro os' r ⟨ds', v, rfl, h', rfl, h0, h1⟩
    refine ⟨_, rfl, ?_⟩
    simp only [List.set_cons_succ, List.set_cons_zero, rvF]
    trivial
    refine w_fo (draw_ok h' (m := 6) (by omega) (by omega)) rfl rfl (.inl rfl) ?_
    rintro os' r ⟨ds2, k, rfl, h2, rfl, k0, k1⟩
    refine ⟨_, rfl, ?_⟩
    simp only [List.set_cons_succ, List.set_cons_zero, rvF]
    trivial
    obtain ⟨i, hi, rfl⟩ := lsD (n := 6) k0 k1
    obtain ⟨j, hj, rfl⟩ := lsD (n := 12) h0 h1
    rcases (by omega : i = 0 ∨ i = 1 ∨ i = 2 ∨ i = 3 ∨ i = 4 ∨ i = 5) with rfl | rfl | rfl | rfl | rfl | rfl
    · refine ⟨.int 1, rfl, ?_⟩
      trivial
      exact ⟨ds2, 1, rfl, h2, by omega, by omega⟩
    · refine ⟨.int 1, rfl, ?_⟩
      trivial
      exact ⟨ds2, 1, rfl, h2, by omega, by omega⟩
    · refine ⟨.int 1, rfl, ?_⟩
      trivial
      exact ⟨ds2, 1, rfl, h2, by omega, by omega⟩
    · refine ⟨.int 2, rfl, ?_⟩
      trivial
      exact ⟨ds2, 2, rfl, h2, by omega, by omega⟩
    · refine ⟨.int 3, rfl, ?_⟩
      trivial
      exact ⟨ds2, 3, rfl, h2, by omega, by omega⟩
    · refine ⟨.int (1 + (j : Int)), rfl, ?_⟩
      trivial
      exact ⟨ds2, 1 + j, by rw [show ((1 + j : Nat) : Int) = 1 + (j : Int) by omega], h2, by omega, by omega⟩
  clear h
  rintro e ⟨ds, m, rfl, h, m1, m2⟩
  trivial
  refine ⟨⟨by omega, by omega⟩, ?_⟩
  refine sw_range (fun i e => ∃ ds t s4, e = [some (true, dl ds), some (false, .im (.str (Str.ofString "abcdefghijklmnopqrstuvwxyz"))), some (false, .im (.int m)), some (false, .im (.str (S t))), fo s4] ∧ nn ds ∧ t.length = i ∧ ∀ c ∈ t, ltr c = true) ⟨ds, [], none, rfl, h, rfl, fun c hc => by cases hc⟩ ?_ ?_
  · rintro i e hi ⟨ds, t, s4, rfl, h, hl, ht⟩
    rw [Int.toNat_natCast] at hi
    refine ⟨[some (true, dl ds), some (false, .im (.str (Str.ofString "abcdefghijklmnopqrstuvwxyz"))), some (false, .im (.int m)), some (false, .im (.str (S t))), some (false, .im (.int i))], by cases s4 <;> rfl, ?_⟩
    trivial
    refine w_fo (draw_ok h (m := 26) (by omega) (by omega)) rfl rfl (.inl rfl) ?_
    rintro os' r ⟨ds', v, rfl, h', rfl, h0, h1⟩
    refine ⟨_, rfl, ?_⟩
    simp only [List.set_cons_succ, List.set_cons_zero, rvF]
    trivial
    refine op_ltr h0 h1 fun c hc => ?_
    trivial
    refine op_cat (by show t.length + 1 ≤ 20000; omega) ?_
    trivial
    refine ⟨ds', t ++ [c], some _, rfl, h', by rw [List.length_append, hl]; rfl, fun d hd => ?_⟩
    rcases List.mem_append.mp hd with k | k
    · exact ht d k
    · rw [List.mem_singleton.mp k]; exact hc
  · rintro e ⟨ds, t, s4, rfl, h, hl, ht⟩
    rw [Int.toNat_natCast] at hl
    trivial
    exact ⟨_, rfl, ds, t, rfl, h, rfl, fun e => by rw [e] at hl; have : (0 : Nat) = m := hl; omega, ht, by omega⟩
end K08

namespace K08
open PySem DL TOK
local macro_rules
  | `(tactic| trivial) => `(tactic| repeat' with_reducible first
    | refine DL.w_seq ?_ | refine DL.w_next ?_ | refine DL.w_if ?_ | refine DL.w_match ?_ | refine DL.pickP_of (by with_unfolding_all decide) ?_ | refine DL.sp_t ?_ | refine DL.sp_f (by with_unfolding_all decide) ?_ | refine DL.sp_n ?_ | refine DL.w_rt ?_ | refine DL.w_set ?_ | refine DL.w_drop ?_ | refine DL.w_app (by with_unfolding_all rfl) ?_ | (refine DL.appP_of (by with_unfolding_all rfl) (by first | assumption | with_unfolding_all exact Nat.le_of_ble_eq_true rfl | (simp only [List.length_append, List.length_map, List.length_cons, List.length_nil]; omega)) ?_; simp only [List.set_cons_succ, List.set_cons_zero, DL.O.flat]) | refine DL.w_forP ?_ | refine DL.w_sforv (by with_unfolding_all rfl) (by with_unfolding_all rfl) ?_ | refine DL.w_asg ?_ | refine DL.w_forV ?_ | refine DL.sqt_if ?_ | refine DL.sqt_rt ?_ | refine DL.sqt_next ?_
    | refine DL.w_frzI (by with_unfolding_all rfl) ?_ | refine DL.w_vwI (by with_unfolding_all rfl) ?_ | refine DL.w_owO (by with_unfolding_all rfl) ?_ | refine DL.w_varI (by with_unfolding_all rfl) ?_ | refine DL.w_varL (by with_unfolding_all rfl) ?_ | refine DL.w_varT (by with_unfolding_all rfl) ?_
    | refine DL.w_vwO (by with_unfolding_all rfl) ?_ | (refine DL.w_frzO (by with_unfolding_all rfl) ?_; simp only [List.set_cons_succ, List.set_cons_zero, DL.O.flat])
    | refine DL.w_pure ?_ | refine DL.w_dq ?_ | refine DL.w_imR ?_ | refine DL.w_imD ?_ | refine DL.w_fl ?_ | refine DL.w_bin ?_ | refine DL.w_cmp ?_ | refine DL.w_rev ?_ | refine DL.w_cat ?_ | refine DL.w_chain ?_ | refine DL.w_dtB ?_ | refine DL.w_dtru ?_
    | refine DL.w_dand ?_ | refine DL.w_dor ?_ | refine DL.w_dnot ?_ | refine DL.w_dandV ?_ | refine DL.w_dorV ?_ | refine DL.w_dnotV ?_ | refine DL.w_dif ?_
    | refine DL.w_dcons ?_ | refine DL.w_dconsV ?_ | refine DL.w_darcons ?_ | (refine DL.w_dtup ?_) | refine DL.w_dlst ?_ | refine DL.w_dixO ?_ | refine DL.w_sq ?_ | refine DL.w_dixX ?_ | refine DL.w_listX ?_ | refine DL.w_sorted ?_ | refine DL.w_un ?_ | refine DL.w_sqC ?_ | refine DL.w_forC ?_ | refine DL.op_fldI (by with_unfolding_all rfl) ?_ | refine DL.w_rg ?_ | refine DL.w_rvO ?_ | refine DL.w_dslice ?_ | refine DL.w_dtmc ?_ | refine DL.w_dtupN ?_ | refine DL.w_dlist ?_ | refine DL.w_dtuple ?_ | refine DL.w_tupV ?_ | refine DL.w_listV ?_
    | refine DL.w_bind ?_ | refine DL.w_lift ?_ | refine DL.w_frz ?_ | refine DL.w_vw ?_ | refine DL.w_ow ?_
    | refine DL.frzP_im ?_ | refine DL.frzP_new ?_ | refine DL.vwP_im ?_ | refine DL.vwP_new ?_ | refine DL.vwP_bor ?_ | refine DL.owP_im ?_ | refine DL.owP_new ?_ | refine DL.owP_bor ?_
    | (refine DL.setP_im (by with_unfolding_all first | rfl | exact DL.fo_free rfl) ?_; simp only [List.set_cons_succ, List.set_cons_zero, DL.O.flat]) | (refine DL.setP_new (by with_unfolding_all first | rfl | exact DL.fo_free rfl) ?_; simp only [List.set_cons_succ, List.set_cons_zero, DL.O.flat])
    | refine DL.argP_im ?_ | refine DL.argP_new ?_ | refine DL.argP_bor ?_ | refine DL.rvP_im ?_ | refine DL.rvP_new ?_ | refine DL.mvP_im ?_ | refine DL.mvP_new ?_ | (refine DL.mvP_bor (by with_unfolding_all rfl) ?_; simp only [List.set_cons_succ, List.set_cons_zero]) | refine DL.itP_im ?_ | refine DL.itP_new ?_ | refine DL.tuP_lst ?_ | refine DL.blP_of ?_
    | refine DL.op_rng (by with_unfolding_all decide) ?_ | refine DL.op_rngG ?_ | refine DL.op_isiII ?_ | refine DL.op_isiIB ?_ | refine DL.op_isiTT ?_ | refine DL.op_isiLL ?_
    | refine DL.op_eq ?_ | refine DL.op_ne ?_ | refine DL.br_t ?_ | refine DL.br_f ?_ | refine DL.br_not ?_ | refine DL.br_eqT (by with_unfolding_all rfl) ?_ | refine DL.br_eqF (by with_unfolding_all rfl) ?_
    | refine DL.sz (by with_unfolding_all exact Nat.le_of_ble_eq_true rfl) ?_
    | refine DL.outI_im (by with_unfolding_all exact Nat.le_of_ble_eq_true rfl) ?_ | refine DL.outI_new (by with_unfolding_all exact Nat.le_of_ble_eq_true rfl) ?_ | refine DL.outI_bor (by with_unfolding_all exact Nat.le_of_ble_eq_true rfl) (by with_unfolding_all rfl) ?_
    | refine DL.op_mod (by with_unfolding_all decide) ?_ | refine DL.op_div (by with_unfolding_all decide) ?_ | refine DL.op_mul (DL.mul_r (by with_unfolding_all decide)) ?_ | refine DL.op_mul (DL.mul_l (by with_unfolding_all decide)) ?_ | refine DL.op_pow (by with_unfolding_all decide) ?_
    | refine DL.w_op (by with_unfolding_all rfl) ?_ | rfl)

def RW : List String := ["begins", "ends", "signers", "spent", "looked", "made", "here", "datum", "redeemer", "guarding", "first", "second", "count", "head", "tail", "item", "coin", "held", "data", "keyed", "homed", "minted", "signed", "spends", "def", "let", "in", "if", "then", "else", "fold", "from", "do", "note", "or", "and", "not", "div", "mod", "true", "false", "fail"]
def wordB (s : String) : Bool := !(Str.ofString s).cps.toList.isEmpty && (Str.ofString s).cps.toList.all ltr && decide ((Str.ofString s).cps.toList.length ≤ 12)
theorem RW_ok : ∀ s ∈ RW, wordB s = true := by decide +kernel
theorem wordB_ok {s : String} (h : wordB s = true) : wordT (Str.ofString s).cps.toList := by
  unfold wordB at h
  rw [Bool.and_eq_true, Bool.and_eq_true, List.all_eq_true, decide_eq_true_iff, Bool.not_eq_true', List.isEmpty_eq_false_iff] at h
  exact ⟨h.1.1, h.1.2, h.2⟩
theorem reserved_ok : FI f__law_reserved [] (· = .new (.lst (RW.map fun s => O.im (.str (Str.ofString s))))) := by
  refine w_fi ?_
  unfold d__law_reserved
  show SW _ [none] _
  trivial
  rfl
theorem op_rw {k : Int} {P : D → Prop} (h0 : 0 ≤ k) (h1 : k < 42) (p : ∀ t, wordT t → P (.str (S t))) : OP (elemD (.lst (RW.map fun s => D.str (Str.ofString s))) (.int k)) P := by
  obtain ⟨i, hi, rfl⟩ := lsD (n := 42) h0 h1
  have hl : RW.length = 42 := rfl
  refine ⟨.str (S (Str.ofString RW[i]).cps.toList), ?_, p _ (wordB_ok (RW_ok _ (List.getElem_mem (by omega))))⟩
  show L2.atI (RW.map fun s => D.str (Str.ofString s)) i = _
  rw [atI_nn _ _ (by omega), Int.toNat_natCast, List.getElem?_map, List.getElem?_eq_getElem (by omega)]
  rfl
theorem op_sig {k : Int} {P : D → Prop} (h0 : 0 ≤ k) (h1 : k < 13) (p : ∀ t ∈ signL, P (.str (S t))) : OP (elemD (.lst [.str (Str.ofString "=="), .str (Str.ofString "<="), .str (Str.ofString "<"), .str (Str.ofString "="), .str (Str.ofString "+"), .str (Str.ofString "-"), .str (Str.ofString "*"), .str (Str.ofString "("), .str (Str.ofString ")"), .str (Str.ofString "["), .str (Str.ofString "]"), .str (Str.ofString ","), .str (Str.ofString ";")]) (.int k)) P := by
  obtain ⟨i, hi, rfl⟩ := lsD (n := 13) h0 h1
  refine ⟨.str (S (signL.getD i [])), ?_, p _ ?_⟩
  · rcases (by omega : i = 0 ∨ i = 1 ∨ i = 2 ∨ i = 3 ∨ i = 4 ∨ i = 5 ∨ i = 6 ∨ i = 7 ∨ i = 8 ∨ i = 9 ∨ i = 10 ∨ i = 11 ∨ i = 12) with rfl | rfl | rfl | rfl | rfl | rfl | rfl | rfl | rfl | rfl | rfl | rfl | rfl <;> rfl
  · rcases (by omega : i = 0 ∨ i = 1 ∨ i = 2 ∨ i = 3 ∨ i = 4 ∨ i = 5 ∨ i = 6 ∨ i = 7 ∨ i = 8 ∨ i = 9 ∨ i = 10 ∨ i = 11 ∨ i = 12) with rfl | rfl | rfl | rfl | rfl | rfl | rfl | rfl | rfl | rfl | rfl | rfl | rfl <;> decide
theorem op_str {m : Nat} {n : Int} {P : D → Prop} (e : n = (m : Int)) (h : m ≤ 1000000000000000) (p : ∀ t, numT t → P (.str (S t))) : OP (strD [.int n]) P := by
  subst e
  refine ⟨.str (S (TL.numL m)), ?_, p _ (num_ok h)⟩
  show (if ((m : Nat) : Int).natAbs.log2 < 1920 then some (D.str (Str.ofString (toString ((m : Nat) : Int)))) else none) = _
  have e : S (TL.numL m) = Str.ofString (toString ((m : Nat) : Int)) := TL.ext_tl (TL.tl_num m).symm
  rw [e, if_pos]
  show m.log2 < 1920
  by_cases h0 : m = 0
  · subst h0; decide
  · rw [Nat.log2_lt h0]
    exact Nat.lt_of_le_of_lt h (by decide)
theorem token2_ok {ds : List Int} (h : nn ds) : FO f__law_token [dl ds] fun os' r => ∃ ds' t, os' = [dl ds'] ∧ nn ds' ∧ r = .im (.str (S t)) ∧ Tok t := by
  refine w_fun ?_
  unfold d__law_token
  show SW _ [some (true, _), none, none, none] _
  trivial
  refine w_fo (draw_ok h (m := 5) (by omega) (by omega)) rfl rfl (.inl rfl) ?_
  rintro os' r ⟨ds, v, rfl, h, rfl, h0, h1⟩
  refine ⟨_, rfl, ?_⟩
  simp only [List.set_cons_succ, List.set_cons_zero, rvF]
  trivial
  refine br_dec (fun hv => ?_) (fun hv => ?_)
  · trivial
    refine w_fo (big_ok h) rfl rfl (.inl rfl) ?_
    rintro os' r ⟨ds, b, rfl, h, rfl, hb⟩
    refine ⟨_, rfl, ?_⟩
    simp only [List.set_cons_succ, List.set_cons_zero, rvF]
    trivial
    refine w_fo (draw_ok h (m := 8) (by omega) (by omega)) rfl rfl (.inl rfl) ?_
    rintro os' r ⟨ds, k, rfl, h, rfl, k0, k1⟩
    refine ⟨_, rfl, ?_⟩
    simp only [List.set_cons_succ, List.set_cons_zero, rvF]
    trivial
    have f1 := fm b (b := 10) (by omega)
    have f2 := fm b (b := 1000) (by omega)
    have f3 := fm b (b := 1000000000000001) (by omega)
    obtain ⟨i, hi, rfl⟩ := lsD (n := 8) k0 k1
    have fin : ∀ t, numT t → Tok t := fun t ht => .inl ht
    rcases (by omega : i = 0 ∨ i = 1 ∨ i = 2 ∨ i = 3 ∨ i = 4 ∨ i = 5 ∨ i = 6 ∨ i = 7) with rfl | rfl | rfl | rfl | rfl | rfl | rfl | rfl
    · refine ⟨.int 0, rfl, ?_⟩
      trivial
      exact ⟨_, rfl, ds, TL.numL 0, rfl, h, by rw [show S (TL.numL 0) = Str.ofString (toString ((0 : Nat) : Int)) from TL.ext_tl (TL.tl_num 0).symm]; rfl, .inl (num_ok (by omega))⟩
    · refine ⟨.int 9, rfl, ?_⟩
      trivial
      exact ⟨_, rfl, ds, TL.numL 9, rfl, h, by rw [show S (TL.numL 9) = Str.ofString (toString ((9 : Nat) : Int)) from TL.ext_tl (TL.tl_num 9).symm]; rfl, .inl (num_ok (by omega))⟩
    · refine ⟨.int 10, rfl, ?_⟩
      trivial
      exact ⟨_, rfl, ds, TL.numL 10, rfl, h, by rw [show S (TL.numL 10) = Str.ofString (toString ((10 : Nat) : Int)) from TL.ext_tl (TL.tl_num 10).symm]; rfl, .inl (num_ok (by omega))⟩
    · refine ⟨.int (b.fmod 10), rfl, ?_⟩
      trivial
      refine op_str (n := (b.fmod 10)) (m := (b.fmod 10).toNat) (by omega) (by omega) fun t ht => ?_
      trivial
      exact ⟨_, rfl, ds, t, rfl, h, rfl, .inl ht⟩
    · refine ⟨.int (b.fmod 1000), rfl, ?_⟩
      trivial
      refine op_str (n := (b.fmod 1000)) (m := (b.fmod 1000).toNat) (by omega) (by omega) fun t ht => ?_
      trivial
      exact ⟨_, rfl, ds, t, rfl, h, rfl, .inl ht⟩
    · refine ⟨.int 1000000000000000, rfl, ?_⟩
      trivial
      exact ⟨_, rfl, ds, TL.numL 1000000000000000, rfl, h, by rw [show S (TL.numL 1000000000000000) = Str.ofString (toString ((1000000000000000 : Nat) : Int)) from TL.ext_tl (TL.tl_num 1000000000000000).symm]; rfl, .inl (num_ok (by omega))⟩
    · refine ⟨.int 999999999999999, rfl, ?_⟩
      trivial
      exact ⟨_, rfl, ds, TL.numL 999999999999999, rfl, h, by rw [show S (TL.numL 999999999999999) = Str.ofString (toString ((999999999999999 : Nat) : Int)) from TL.ext_tl (TL.tl_num 999999999999999).symm]; rfl, .inl (num_ok (by omega))⟩
    · refine ⟨.int (b.fmod 1000000000000001), rfl, ?_⟩
      trivial
      refine op_str (n := (b.fmod 1000000000000001)) (m := (b.fmod 1000000000000001).toNat) (by omega) (by omega) fun t ht => ?_
      trivial
      exact ⟨_, rfl, ds, t, rfl, h, rfl, .inl ht⟩
  · trivial
    refine br_dec (fun hv => ?_) (fun hv => ?_)
    · trivial
      refine w_fo (word2_ok h) rfl rfl (.inl rfl) ?_
      rintro os' r ⟨ds, t, rfl, h, rfl, ht⟩
      refine ⟨_, rfl, ?_⟩
      simp only [List.set_cons_succ, List.set_cons_zero, rvF]
      trivial
      exact ⟨_, rfl, ds, t, rfl, h, rfl, .inr (.inl ht)⟩
    · trivial
      refine br_dec (fun hv => ?_) (fun hv => ?_)
      · trivial
        refine w_callN (ds := []) reserved_ok rfl ?_
        trivial
        refine w_fo (draw_ok h (m := 42) (by omega) (by omega)) rfl rfl (.inl rfl) ?_
        rintro os' r ⟨ds, k, rfl, h, rfl, k0, k1⟩
        refine ⟨_, rfl, ?_⟩
        simp only [List.set_cons_succ, List.set_cons_zero, rvF]
        trivial
        rw [flat_map (g := fun s => D.str (Str.ofString s))]
        refine op_rw k0 k1 fun t ht => ?_
        trivial
        exact ⟨_, rfl, ds, t, rfl, h, rfl, .inr (.inl ht)⟩
      · trivial
        refine w_fo (draw_ok h (m := 13) (by omega) (by omega)) rfl rfl (.inl rfl) ?_
        rintro os' r ⟨ds, k, rfl, h, rfl, k0, k1⟩
        refine ⟨_, rfl, ?_⟩
        simp only [List.set_cons_succ, List.set_cons_zero, rvF]
        trivial
        refine op_sig k0 k1 fun t ht => ?_
        trivial
        exact ⟨_, rfl, ds, t, rfl, h, rfl, .inr (.inr ht)⟩
theorem glued_ok {b a : List Nat} (hb : Th b) (ha : Th a) : FI f__law_glued [.str (S b), .str (S a)] (· = .im (.bl (glued b a))) := by
  have lb := List.length_pos_iff.mpr hb.ne
  have la := List.length_pos_iff.mpr ha.ne
  have zb := hb.len
  have za := ha.len
  have eb : b[0] = hd b := by cases b with | nil => exact absurd rfl hb.ne | cons c r => rfl
  have ea : a[0] = hd a := by cases a with | nil => exact absurd rfl ha.ne | cons c r => rfl
  refine w_fi ?_
  unfold d__law_glued
  show SW _ [some (false, .im _), some (false, .im _), none] _
  trivial
  refine op_at (i := 0) lb (by omega) ?_
  rw [eb]
  trivial
  refine br_dg ?_
  refine br_of (fun h => ?_) (fun h1 => ?_)
  · trivial
    refine op_at (i := 0) la (by omega) ?_
    rw [ea]
    trivial
    have e1 := PySem.StrLaws.found_one (Str.ofString "0123456789") (hd a)
    rw [mem_dig] at e1
    unfold glued
    rw [if_pos h, ← e1]
  trivial
  refine op_at (i := 0) lb (by omega) ?_
  rw [eb]
  trivial
  refine br_lt ?_
  refine br_of (fun h => ?_) (fun h2 => ?_)
  · trivial
    refine op_at (i := 0) la (by omega) ?_
    rw [ea]
    trivial
    have e1 := PySem.StrLaws.found_one (Str.ofString "abcdefghijklmnopqrstuvwxyz") (hd a)
    rw [mem_ltr] at e1
    unfold glued
    rw [if_neg (by rw [h1]; exact Bool.false_ne_true), if_pos h, ← e1]
  trivial
  refine op_eqS (m := [60]) hb.ok (ok_one (by omega)) ?_
  trivial
  have G : glued b a = ((decide (b = [60]) || decide (b = [61])) && decide (hd a = 61)) := by
    unfold glued
    rw [if_neg (by rw [h1]; exact Bool.false_ne_true), if_neg (by rw [h2]; exact Bool.false_ne_true)]
  have oka : hd a < 128 := by rw [← ea]; exact ha.ok _ (List.getElem_mem la)
  have eh : decide ([hd a] = [61]) = decide (hd a = 61) := by rw [decide_eq_decide]; simp
  refine br_dec (fun h3 => ?_) (fun h3 => ?_)
  · trivial
    refine op_at (i := 0) la (by omega) ?_
    rw [ea]
    trivial
    refine op_eqS (l := [hd a]) (m := [61]) (ok_one oka) (ok_one (by omega)) ?_
    trivial
    rw [G, decide_eq_true h3, eh]
    first | rfl | (rw [Bool.or_true, Bool.true_and])
  · trivial
    refine op_eqS (m := [61]) hb.ok (ok_one (by omega)) ?_
    trivial
    refine br_dec (fun h4 => ?_) (fun h4 => ?_)
    · trivial
      refine op_at (i := 0) la (by omega) ?_
      rw [ea]
      trivial
      refine op_eqS (l := [hd a]) (m := [61]) (ok_one oka) (ok_one (by omega)) ?_
      trivial
      rw [G, decide_eq_true h4, eh]
      first | rfl | (rw [Bool.or_true, Bool.true_and])
    · trivial
      rw [G, decide_eq_false h3, decide_eq_false h4]
      rfl
theorem nn_app {l : List Int} {n : Int} (h : nn l) (k : 0 ≤ n) : nn (l ++ [n]) := fun d hd => by
  rcases List.mem_append.mp hd with m | m
  · exact h d m
  · rw [List.mem_singleton.mp m]; exact k
theorem cut_take {L : List Int} {m : Nat} : cutD (L.map D.int) none (some (m : Int)) = (L.take m).map D.int := by
  unfold cutD
  rw [HT.sIx_nat, HT.sIx_none, List.length_map, List.drop_zero, Nat.sub_zero, ← List.map_take]
  congr 1
  by_cases h : m ≤ L.length
  · rw [Nat.min_eq_left h]
  · rw [Nat.min_eq_right (by omega), List.take_of_length_le (Nat.le_refl _), List.take_of_length_le (by omega)]
theorem numbers_ok {ns : List Int} (hns : ns.length ≤ 63) : FI f__law_numbers [.scr (ns.map D.int), .int 700] fun r => ∃ ds, r = .new (dl ds) ∧ nn ds := by
  refine w_fi ?_
  unfold d__law_numbers
  show SW _ [some (false, .im _), some (false, .im _), none, none, none, none, none, none, none] _
  trivial
  refine w_cut (fun e => ∃ L seed s4 s5 s6, e = [some (false, .im (.scr (ns.map D.int))), some (false, .im (.int 700)), some (false, dl L), some (false, .im (.int seed)), fo s4, fo s5, fo s6, none, none] ∧ nn L ∧ L.length ≤ 60 * ns.length) ?_ ?_
  · refine sw_each ns D.int (fun i e => ∃ L seed s4 s5 s6, e = [some (false, .im (.scr (ns.map D.int))), some (false, .im (.int 700)), some (false, dl L), some (false, .im (.int seed)), fo s4, fo s5, fo s6, none, none] ∧ nn L ∧ L.length ≤ 60 * i) ⟨[], 7, none, none, none, rfl, fun d h => (by cases h), by simp⟩ ?_ ?_
    · rintro i c e hi ⟨L, seed, s4, s5, s6, rfl, hL, hl⟩
      have hlt : i < ns.length := (List.getElem?_eq_some_iff.mp hi).1
      refine ⟨[some (false, .im (.scr (ns.map D.int))), some (false, .im (.int 700)), some (false, dl L), some (false, .im (.int seed)), some (false, .im (.int c)), fo s5, fo s6, none, none], by cases s4 <;> rfl, ?_⟩
      trivial
      refine br_dec (fun h => ?_) (fun h => ?_)
      · trivial
        refine sw_range (n := 60) (fun j e => ∃ L rest s6, e = [some (false, .im (.scr (ns.map D.int))), some (false, .im (.int 700)), some (false, dl L), some (false, .im (.int ((seed * 48271 + (if c < 0 then -c else c) * 69621 + 11).fmod 2147483647))), some (false, .im (.int c)), some (false, .im (.int rest)), fo s6, none, none] ∧ nn L ∧ L.length ≤ 60 * i + j) ⟨L, _, s6, rfl, hL, by omega⟩ ?_ ?_
        · rintro j e hj ⟨L, rest, s6, rfl, hL, hl⟩
          refine ⟨[some (false, .im (.scr (ns.map D.int))), some (false, .im (.int 700)), some (false, dl L), some (false, .im (.int ((seed * 48271 + (if c < 0 then -c else c) * 69621 + 11).fmod 2147483647))), some (false, .im (.int c)), some (false, .im (.int rest)), some (false, .im (.int j)), none, none], by cases s6 <;> rfl, ?_⟩
          have hj60 : j < 60 := hj
          have len : (L.map fun n => O.im (.int n)).length < sizeLine := by
            rw [List.length_map]
            exact Nat.lt_of_lt_of_le (show _ < 10000 by omega) (by decide)
          trivial
          refine br_dec (fun h => ?_) (fun h => ?_)
          · trivial
            have f := fm rest (b := 1000) (by omega)
            exact ⟨L ++ [rest.fmod 1000], _, some _, by unfold dl; rw [List.map_append]; rfl, nn_app hL f.1, by rw [List.length_append]; show L.length + 1 ≤ _; omega⟩
          · trivial
            exact ⟨L, rest, some _, rfl, hL, by omega⟩
        · rintro e ⟨L, rest, s6, rfl, hL, hl⟩
          have h60 : (Int.toNat 60) = 60 := rfl
          exact ⟨L, _, some _, some _, s6, rfl, hL, by omega⟩
      · trivial
        exact ⟨L, _, some _, some _, s6, rfl, hL, by omega⟩
    · rintro e h
      exact h
  rintro e ⟨L, seed, s4, s5, s6, rfl, hL, hl⟩
  trivial
  refine w_op (z := .new (dl (L.take 700))) (by
    show (ims (L.map fun n => O.im (.int n))).map (fun ds => Rv.new (.lst ((cutD ds none (some ((700 : Nat) : Int))).map O.im))) = _
    rw [show ims _ = _ from lstV_map D.int L]
    show some (Rv.new (.lst ((cutD (L.map D.int) none (some ((700 : Nat) : Int))).map O.im))) = _
    rw [cut_take, map_im]) ?_
  trivial
  rw [flats_map, List.length_map]
  have ht : (L.take 700).length ≤ 700 := by rw [List.length_take]; omega
  have hT : nn (L.take 700) := fun d hd => hL d (List.mem_of_mem_take hd)
  refine ⟨⟨by omega, by omega⟩, ?_⟩
  refine sw_range (fun i e => ∃ T s7 s8, e = [some (false, .im (.scr (ns.map D.int))), some (false, .im (.int 700)), some (false, dl T), some (false, .im (.int seed)), fo s4, fo s5, fo s6, fo s7, fo s8] ∧ nn T ∧ T.length = (L.take 700).length + i) ⟨L.take 700, none, none, rfl, hT, rfl⟩ ?_ ?_
  · rintro i e hi ⟨T, s7, s8, rfl, hT, hl⟩
    refine ⟨[some (false, .im (.scr (ns.map D.int))), some (false, .im (.int 700)), some (false, dl T), some (false, .im (.int seed)), fo s4, fo s5, fo s6, some (false, .im (.int i)), fo s8], by cases s7 <;> rfl, ?_⟩
    have len : (T.map fun n => O.im (.int n)).length < sizeLine := by
      rw [List.length_map]
      exact Nat.lt_of_lt_of_le (show _ < 10000 by omega) (by decide)
    trivial
    have := fm (seed * 48271 + ↑i * 69621 + 11) (b := 2147483647) (by decide)
    refine op_mul (mul_l (by omega)) ?_
    trivial
    exact ⟨T ++ [_], some _, some _, by unfold dl; rw [List.map_append]; rfl, nn_app hT (fm _ (by decide)).1, by rw [List.length_append, hl]; rfl⟩
  · rintro e ⟨T, s7, s8, rfl, hT, hl⟩
    trivial
    refine w_op (lsqV_map D.int T) ?_
    trivial
    exact ⟨T.reverse, by rw [← List.map_reverse, map_im], fun d hd => hT d (List.mem_reverse.mp hd)⟩
end K08

namespace K08
open PySem DL TOK
local macro_rules
  | `(tactic| trivial) => `(tactic| repeat' with_reducible first
    | refine DL.w_seq ?_ | refine DL.w_next ?_ | refine DL.w_if ?_ | refine DL.w_match ?_ | refine DL.pickP_of (by with_unfolding_all decide) ?_ | refine DL.sp_t ?_ | refine DL.sp_f (by with_unfolding_all decide) ?_ | refine DL.sp_n ?_ | refine DL.w_rt ?_ | refine DL.w_set ?_ | refine DL.w_drop ?_ | refine DL.w_app (by with_unfolding_all rfl) ?_ | (refine DL.appP_of (by with_unfolding_all rfl) (by first | assumption | with_unfolding_all exact Nat.le_of_ble_eq_true rfl | (simp only [List.length_append, List.length_map, List.length_cons, List.length_nil]; omega)) ?_; simp only [List.set_cons_succ, List.set_cons_zero, DL.O.flat]) | refine DL.w_forP ?_ | refine DL.w_sforv (by with_unfolding_all rfl) (by with_unfolding_all rfl) ?_ | refine DL.w_asg ?_ | refine DL.w_forV ?_ | refine DL.sqt_if ?_ | refine DL.sqt_rt ?_ | refine DL.sqt_next ?_
    | refine DL.w_frzI (by with_unfolding_all rfl) ?_ | refine DL.w_vwI (by with_unfolding_all rfl) ?_ | refine DL.w_owO (by with_unfolding_all rfl) ?_ | refine DL.w_varI (by with_unfolding_all rfl) ?_ | refine DL.w_varL (by with_unfolding_all rfl) ?_ | refine DL.w_varT (by with_unfolding_all rfl) ?_
    | refine DL.w_vwO (by with_unfolding_all rfl) ?_ | (refine DL.w_frzO (by with_unfolding_all rfl) ?_; simp only [List.set_cons_succ, List.set_cons_zero, DL.O.flat])
    | refine DL.w_pure ?_ | refine DL.w_dq ?_ | refine DL.w_imR ?_ | refine DL.w_imD ?_ | refine DL.w_fl ?_ | refine DL.w_bin ?_ | refine DL.w_cmp ?_ | refine DL.w_rev ?_ | refine DL.w_cat ?_ | refine DL.w_chain ?_ | refine DL.w_dtB ?_ | refine DL.w_dtru ?_
    | refine DL.w_dand ?_ | refine DL.w_dor ?_ | refine DL.w_dnot ?_ | refine DL.w_dandV ?_ | refine DL.w_dorV ?_ | refine DL.w_dnotV ?_ | refine DL.w_dif ?_
    | refine DL.w_dcons ?_ | refine DL.w_dconsV ?_ | refine DL.w_darcons ?_ | (refine DL.w_dtup ?_) | refine DL.w_dlst ?_ | refine DL.w_dixO ?_ | refine DL.w_sq ?_ | refine DL.w_dixX ?_ | refine DL.w_listX ?_ | refine DL.w_sorted ?_ | refine DL.w_un ?_ | refine DL.w_sqC ?_ | refine DL.w_forC ?_ | refine DL.op_fldI (by with_unfolding_all rfl) ?_ | refine DL.w_rg ?_ | refine DL.w_rvO ?_ | refine DL.w_dslice ?_ | refine DL.w_dtmc ?_ | refine DL.w_dtupN ?_ | refine DL.w_dlist ?_ | refine DL.w_dtuple ?_ | refine DL.w_tupV ?_ | refine DL.w_listV ?_
    | refine DL.w_bind ?_ | refine DL.w_lift ?_ | refine DL.w_frz ?_ | refine DL.w_vw ?_ | refine DL.w_ow ?_
    | refine DL.frzP_im ?_ | refine DL.frzP_new ?_ | refine DL.vwP_im ?_ | refine DL.vwP_new ?_ | refine DL.vwP_bor ?_ | refine DL.owP_im ?_ | refine DL.owP_new ?_ | refine DL.owP_bor ?_
    | (refine DL.setP_im (by with_unfolding_all first | rfl | exact DL.fo_free rfl) ?_; simp only [List.set_cons_succ, List.set_cons_zero, DL.O.flat]) | (refine DL.setP_new (by with_unfolding_all first | rfl | exact DL.fo_free rfl) ?_; simp only [List.set_cons_succ, List.set_cons_zero, DL.O.flat])
    | refine DL.argP_im ?_ | refine DL.argP_new ?_ | refine DL.argP_bor ?_ | refine DL.rvP_im ?_ | refine DL.rvP_new ?_ | refine DL.mvP_im ?_ | refine DL.mvP_new ?_ | (refine DL.mvP_bor (by with_unfolding_all rfl) ?_; simp only [List.set_cons_succ, List.set_cons_zero]) | refine DL.itP_im ?_ | refine DL.itP_new ?_ | refine DL.tuP_lst ?_ | refine DL.blP_of ?_
    | refine DL.op_rng (by with_unfolding_all decide) ?_ | refine DL.op_rngG ?_ | refine DL.op_isiII ?_ | refine DL.op_isiIB ?_ | refine DL.op_isiTT ?_ | refine DL.op_isiLL ?_
    | refine DL.op_eq ?_ | refine DL.op_ne ?_ | refine DL.br_t ?_ | refine DL.br_f ?_ | refine DL.br_not ?_ | refine DL.br_eqT (by with_unfolding_all rfl) ?_ | refine DL.br_eqF (by with_unfolding_all rfl) ?_
    | refine DL.sz (by with_unfolding_all exact Nat.le_of_ble_eq_true rfl) ?_
    | refine DL.outI_im (by with_unfolding_all exact Nat.le_of_ble_eq_true rfl) ?_ | refine DL.outI_new (by with_unfolding_all exact Nat.le_of_ble_eq_true rfl) ?_ | refine DL.outI_bor (by with_unfolding_all exact Nat.le_of_ble_eq_true rfl) (by with_unfolding_all rfl) ?_
    | refine DL.op_mod (by with_unfolding_all decide) ?_ | refine DL.op_div (by with_unfolding_all decide) ?_ | refine DL.op_mul (DL.mul_r (by with_unfolding_all decide)) ?_ | refine DL.op_mul (DL.mul_l (by with_unfolding_all decide)) ?_ | refine DL.op_pow (by with_unfolding_all decide) ?_
    | refine DL.w_op (by with_unfolding_all rfl) ?_ | rfl)

theorem number_bad {x : List Nat} {p : Nat} {t r : List Nat} (hd : x.drop p = t ++ r) (hp : p ≤ x.length) (hz : x.length ≤ 20000) (ht : badN t) (hf : ∀ c, r.head? = some c → dig c = false) : FE f_number_at [.str (S x), .int p] (· = xn "BadToken" (.int p)) := by
  have hw : (x.drop p).takeWhile (fun c => decide (c ∈ (Str.ofString "0123456789").cps.toList)) = t := by
    rw [hd]
    exact while_app (fun c hc => by rw [mem_dig]; exact ht.2.1 c hc) (fun c hc => by rw [mem_dig]; exact hf c hc)
  have hr := run_ok (z := Str.ofString "0123456789") hp hz
  rw [hw] at hr
  have hlen := ht.2.2.1
  have hpos : 0 < t.length := List.length_pos_iff.mpr ht.1
  refine fe_of ?_
  unfold d_number_at
  show SE _ [some (false, .im _), some (false, .im _), none] _
  refine se_seqR ?_
  trivial
  refine w_callI (ds := [.str _, .int _, .str _]) hr rfl ?_
  trivial
  refine se_seqL (se_if ?_)
  trivial
  refine op_at (i := 0) hpos (by omega) ?_
  trivial
  refine op_eqS (m := [48]) (fun c hc => by rw [List.mem_singleton.mp hc]; have := dig_lt (ht.2.1 _ (List.getElem_mem hpos)); omega) (ok_one (by omega)) ?_
  trivial
  have fin : ∀ e : DL.Env, e = [some (false, O.im (D.str (S x))), some (false, O.im (D.int p)), some (false, O.im (D.str (S t)))] → SE (sraise "BadToken" (frz (dvar 1))) e fun z e' => 2 ≤ e'.length ∧ z = xn "BadToken" (.int p) := by
    rintro e rfl
    refine se_raise ?_
    trivial
    exact ⟨by show 2 ≤ 3; omega, rfl⟩
  have big : ¬ (t.head? = some 48 ∧ 1 < t.length) → ∃ n : Int, OP (intS [.str (S t)]) (· = .int n) ∧ 1000000000000000 < n := fun h0 => by
    rcases ht.2.2.2 with h | ⟨n, hn1, hn2⟩
    · exact absurd h h0
    · exact ⟨n, ⟨.int n, by show (if (S t).length ≤ 640 then (intText? (S t)).map D.int else none) = _; rw [if_pos (by rw [S_len]; omega), hn1]; rfl, rfl⟩, hn2⟩
  have h48 : t.head? = some 48 ↔ [t[0]] = [48] := by
    rw [List.head?_eq_getElem?, List.getElem?_eq_getElem hpos]
    simp
  refine br_dec (fun h => ?_) (fun h => ?_)
  · trivial
    refine op_lenS (by omega) ?_
    trivial
    refine br_dec (fun h1 => ?_) (fun h1 => ?_)
    · trivial
      exact fin _ rfl
    · obtain ⟨n, ⟨_, hok, rfl⟩, hn⟩ := big (fun z => h1 (by omega))
      trivial
      refine w_op hok ?_
      trivial
      refine br_dec (fun _ => ?_) (fun z => absurd hn z)
      exact fin _ rfl
  · obtain ⟨n, ⟨_, hok, rfl⟩, hn⟩ := big (fun z => h (h48.mp z.1))
    trivial
    refine w_op hok ?_
    trivial
    refine br_dec (fun _ => ?_) (fun z => absurd hn z)
    exact fin _ rfl
theorem word_bad {x : List Nat} {p : Nat} {t r : List Nat} (hd : x.drop p = t ++ r) (hp : p ≤ x.length) (hz : x.length ≤ 20000) (ht : badW t) (hf : ∀ c, r.head? = some c → ltr c = false) : FE f_word_at [.str (S x), .int p] (· = xn "BadToken" (.int p)) := by
  have hw : (x.drop p).takeWhile (fun c => decide (c ∈ (Str.ofString "abcdefghijklmnopqrstuvwxyz").cps.toList)) = t := by
    rw [hd]
    exact while_app (fun c hc => by rw [mem_ltr]; exact ht.1 c hc) (fun c hc => by rw [mem_ltr]; exact hf c hc)
  have hr := run_ok (z := Str.ofString "abcdefghijklmnopqrstuvwxyz") hp hz
  rw [hw] at hr
  have h1 := ht.2.1
  have h2 := ht.2.2
  refine fe_of ?_
  unfold d_word_at
  show SE _ [some (false, .im _), some (false, .im _), none] _
  refine se_seqR ?_
  trivial
  refine w_callI (ds := [.str _, .int _, .str _]) hr rfl ?_
  trivial
  refine se_seqL (se_if ?_)
  trivial
  refine op_lenS (by omega) ?_
  trivial
  refine br_dec (fun h => ?_) (fun h => ?_)
  · refine se_raise ?_
    trivial
    exact ⟨by show 2 ≤ 3; omega, rfl⟩
  · omega
theorem token_bad {x : List Nat} {p : Nat} {t r : List Nat} (hx : x.drop p = t ++ r) (hz : x.length ≤ 20000) (ht : BadT t) (hf : folB t r) : FE f_token_at [.str (S x), .int p] (· = xn "BadToken" (.int p)) := by
  have th := ht.th
  obtain ⟨t', et⟩ : ∃ t', t = hd t :: t' := by
    cases t with
    | nil => exact absurd rfl th.ne
    | cons c t => exact ⟨t, rfl⟩
  have hlt : p < x.length := by
    refine Classical.byContradiction fun h => ?_
    rw [List.drop_eq_nil_of_le (by omega)] at hx
    rw [et] at hx
    cases hx
  have hc : x[p] = hd t := by
    have h1 := List.drop_eq_getElem_cons hlt
    rw [hx, et] at h1
    injection h1 with h1
    exact h1.symm
  refine fe_of ?_
  unfold d_token_at
  show SE _ [some (false, .im _), some (false, .im _)] _
  by_cases hd1 : dig (hd t) = true
  · have hn : badN t := by
      rcases ht with ht | ht | ⟨c, rfl, _, h3, _⟩
      · exact ht
      · rw [ltr_dig (ht.1 _ (hd_mem th.ne))] at hd1; cases hd1
      · have hd1 : dig c = true := hd1
        rw [h3] at hd1; cases hd1
    refine se_seqL (se_if ?_)
    trivial
    refine op_at hlt (by omega) ?_
    rw [hc]
    trivial
    refine br_dg ?_
    refine br_of (fun _ => ?_) (fun z => by rw [hd1] at z; cases z)
    refine se_rt (ee_bindR ?_)
    trivial
    refine ee_call (ds := [.str _, .int _]) (fe_imp (number_bad hx (by omega) hz hn (hf.1 hd1)) fun z hz => ⟨by show 2 ≤ 2; omega, hz⟩) rfl
  have hd0 : dig (hd t) = false := by simpa using hd1
  refine se_seqR ?_
  trivial
  refine op_at hlt (by omega) ?_
  rw [hc]
  trivial
  refine br_dg ?_
  refine br_of (fun z => by rw [hd0] at z; cases z) (fun _ => ?_)
  trivial
  by_cases hl1 : ltr (hd t) = true
  · have hw : badW t := by
      rcases ht with ht | ht | ⟨c, rfl, _, _, h4, _⟩
      · rw [ht.2.1 _ (hd_mem th.ne)] at hd0; cases hd0
      · exact ht
      · have hl1 : ltr c = true := hl1
        rw [h4] at hl1; cases hl1
    refine se_seqL (se_if ?_)
    trivial
    refine op_at hlt (by omega) ?_
    rw [hc]
    trivial
    refine br_lt ?_
    refine br_of (fun _ => ?_) (fun z => by rw [hl1] at z; cases z)
    refine se_rt (ee_bindR ?_)
    trivial
    refine ee_call (ds := [.str _, .int _]) (fe_imp (word_bad hx (by omega) hz hw (hf.2.1 hl1)) fun z hz => ⟨by show 2 ≤ 2; omega, hz⟩) rfl
  have hl0 : ltr (hd t) = false := by simpa using hl1
  obtain ⟨c, rfl, h1, h2, h3, h4, h5⟩ : badC t := by
    rcases ht with ht | ht | ht
    · rw [ht.2.1 _ (hd_mem th.ne)] at hd0; cases hd0
    · rw [ht.1 _ (hd_mem (badW_ne ht))] at hl0; cases hl0
    · exact ht
  refine se_seqR ?_
  trivial
  refine op_at hlt (by omega) ?_
  rw [hc]
  trivial
  refine br_lt ?_
  refine br_of (fun z => by rw [hl0] at z; cases z) (fun _ => ?_)
  trivial
  refine se_seqR ?_
  trivial
  refine op_slice (b := p + 2) (by omega) (by omega) (by omega) ?_
  rw [hx, show p + 2 - p = 2 by omega]
  trivial
  refine br_db ?_
  refine br_dec (fun z => ?_) (fun _ => ?_)
  · have z1 : ∀ y : Nat, (([c] : List Nat) ++ r).take 2 = [y, 61] → c = y := fun y z => by
      cases r <;> simp at z <;> first | exact z.1 | exact z
    rcases z with z | z
    · exact absurd (by rw [z1 61 z]; decide) h4
    · exact absurd (by rw [z1 60 z]; decide) h4
  trivial
  refine se_seqR ?_
  trivial
  refine op_at hlt (by omega) ?_
  rw [hc]
  trivial
  refine br_si ?_
  refine br_dec (fun z => absurd z h4) (fun _ => ?_)
  trivial
  refine se_raise ?_
  trivial
  exact ⟨by show 2 ≤ 2; omega, rfl⟩
end K08

namespace K08
open PySem DL TOK
local macro_rules
  | `(tactic| trivial) => `(tactic| repeat' with_reducible first
    | refine DL.w_seq ?_ | refine DL.w_next ?_ | refine DL.w_if ?_ | refine DL.w_match ?_ | refine DL.pickP_of (by with_unfolding_all decide) ?_ | refine DL.sp_t ?_ | refine DL.sp_f (by with_unfolding_all decide) ?_ | refine DL.sp_n ?_ | refine DL.w_rt ?_ | refine DL.w_set ?_ | refine DL.w_drop ?_ | refine DL.w_app (by with_unfolding_all rfl) ?_ | (refine DL.appP_of (by with_unfolding_all rfl) (by first | assumption | with_unfolding_all exact Nat.le_of_ble_eq_true rfl | (simp only [List.length_append, List.length_map, List.length_cons, List.length_nil]; omega)) ?_; simp only [List.set_cons_succ, List.set_cons_zero, DL.O.flat]) | refine DL.w_forP ?_ | refine DL.w_sforv (by with_unfolding_all rfl) (by with_unfolding_all rfl) ?_ | refine DL.w_asg ?_ | refine DL.w_forV ?_ | refine DL.sqt_if ?_ | refine DL.sqt_rt ?_ | refine DL.sqt_next ?_
    | refine DL.w_frzI (by with_unfolding_all rfl) ?_ | refine DL.w_vwI (by with_unfolding_all rfl) ?_ | refine DL.w_owO (by with_unfolding_all rfl) ?_ | refine DL.w_varI (by with_unfolding_all rfl) ?_ | refine DL.w_varL (by with_unfolding_all rfl) ?_ | refine DL.w_varT (by with_unfolding_all rfl) ?_
    | refine DL.w_vwO (by with_unfolding_all rfl) ?_ | (refine DL.w_frzO (by with_unfolding_all rfl) ?_; simp only [List.set_cons_succ, List.set_cons_zero, DL.O.flat])
    | refine DL.w_pure ?_ | refine DL.w_dq ?_ | refine DL.w_imR ?_ | refine DL.w_imD ?_ | refine DL.w_fl ?_ | refine DL.w_bin ?_ | refine DL.w_cmp ?_ | refine DL.w_rev ?_ | refine DL.w_cat ?_ | refine DL.w_chain ?_ | refine DL.w_dtB ?_ | refine DL.w_dtru ?_
    | refine DL.w_dand ?_ | refine DL.w_dor ?_ | refine DL.w_dnot ?_ | refine DL.w_dandV ?_ | refine DL.w_dorV ?_ | refine DL.w_dnotV ?_ | refine DL.w_dif ?_
    | refine DL.w_dcons ?_ | refine DL.w_dconsV ?_ | refine DL.w_darcons ?_ | (refine DL.w_dtup ?_) | refine DL.w_dlst ?_ | refine DL.w_dixO ?_ | refine DL.w_sq ?_ | refine DL.w_dixX ?_ | refine DL.w_listX ?_ | refine DL.w_sorted ?_ | refine DL.w_un ?_ | refine DL.w_sqC ?_ | refine DL.w_forC ?_ | refine DL.op_fldI (by with_unfolding_all rfl) ?_ | refine DL.w_rg ?_ | refine DL.w_rvO ?_ | refine DL.w_dslice ?_ | refine DL.w_dtmc ?_ | refine DL.w_dtupN ?_ | refine DL.w_dlist ?_ | refine DL.w_dtuple ?_ | refine DL.w_tupV ?_ | refine DL.w_listV ?_
    | refine DL.w_bind ?_ | refine DL.w_lift ?_ | refine DL.w_frz ?_ | refine DL.w_vw ?_ | refine DL.w_ow ?_
    | refine DL.frzP_im ?_ | refine DL.frzP_new ?_ | refine DL.vwP_im ?_ | refine DL.vwP_new ?_ | refine DL.vwP_bor ?_ | refine DL.owP_im ?_ | refine DL.owP_new ?_ | refine DL.owP_bor ?_
    | (refine DL.setP_im (by with_unfolding_all first | rfl | exact DL.fo_free rfl) ?_; simp only [List.set_cons_succ, List.set_cons_zero, DL.O.flat]) | (refine DL.setP_new (by with_unfolding_all first | rfl | exact DL.fo_free rfl) ?_; simp only [List.set_cons_succ, List.set_cons_zero, DL.O.flat])
    | refine DL.argP_im ?_ | refine DL.argP_new ?_ | refine DL.argP_bor ?_ | refine DL.rvP_im ?_ | refine DL.rvP_new ?_ | refine DL.mvP_im ?_ | refine DL.mvP_new ?_ | (refine DL.mvP_bor (by with_unfolding_all rfl) ?_; simp only [List.set_cons_succ, List.set_cons_zero]) | refine DL.itP_im ?_ | refine DL.itP_new ?_ | refine DL.tuP_lst ?_ | refine DL.blP_of ?_
    | refine DL.op_rng (by with_unfolding_all decide) ?_ | refine DL.op_rngG ?_ | refine DL.op_isiII ?_ | refine DL.op_isiIB ?_ | refine DL.op_isiTT ?_ | refine DL.op_isiLL ?_
    | refine DL.op_eq ?_ | refine DL.op_ne ?_ | refine DL.br_t ?_ | refine DL.br_f ?_ | refine DL.br_not ?_ | refine DL.br_eqT (by with_unfolding_all rfl) ?_ | refine DL.br_eqF (by with_unfolding_all rfl) ?_
    | refine DL.sz (by with_unfolding_all exact Nat.le_of_ble_eq_true rfl) ?_
    | refine DL.outI_im (by with_unfolding_all exact Nat.le_of_ble_eq_true rfl) ?_ | refine DL.outI_new (by with_unfolding_all exact Nat.le_of_ble_eq_true rfl) ?_ | refine DL.outI_bor (by with_unfolding_all exact Nat.le_of_ble_eq_true rfl) (by with_unfolding_all rfl) ?_
    | refine DL.op_mod (by with_unfolding_all decide) ?_ | refine DL.op_div (by with_unfolding_all decide) ?_ | refine DL.op_mul (DL.mul_r (by with_unfolding_all decide)) ?_ | refine DL.op_mul (DL.mul_l (by with_unfolding_all decide)) ?_ | refine DL.op_pow (by with_unfolding_all decide) ?_
    | refine DL.w_op (by with_unfolding_all rfl) ?_ | rfl)

/-- tokens, then a thing that ends the reading -/
theorem tokens_bad {x : List Nat} {g : Nat} {l : List Sg} {k : Nat} {t r : List Nat} (hx : x = List.replicate g 32 ++ txtR l (List.replicate k 32 ++ (t ++ r))) (hz : x.length ≤ 20000) (hG : GoodR l (List.replicate k 32 ++ (t ++ r))) (hox : ok x) (th : Th t) (hf : folB t r)
    (hl : l.length = 200 ∨ (l.length < 200 ∧ BadT t)) : FE f_tokens [.str (S x)] (· = xn (if l.length = 200 then "OverLimit" else "BadToken") (.int ((g + wid l + k : Nat) : Int))) := by
  refine fe_of ?_
  unfold d_tokens
  show SE _ [some (false, .im _), none, none, none] _
  refine se_seqR ?_
  trivial
  refine se_seqR ?_
  trivial
  refine se_seqL ?_
  refine se_while (fun m e => ∃ (p : Nat) (F : List (List Nat × Nat)) (g' : Nat) (l' : List Sg) (k' : Nat) (s3 : Option O), e = [some (false, .im (.str (S x))), some (false, .lst (F.map fun q => O.im (tkD q))), some (false, .im (.int (p : Nat))), fo s3] ∧ p ≤ x.length ∧ m = x.length - p ∧
    x.drop p = List.replicate g' 32 ++ txtR l' (List.replicate k' 32 ++ (t ++ r)) ∧ GoodR l' (List.replicate k' 32 ++ (t ++ r)) ∧ F.length + l'.length = l.length ∧ p + g' + wid l' + k' = g + wid l + k) ?_ 1000000 x.length _ (by omega) ⟨0, [], g, l, k, none, rfl, by omega, by omega, hx, hG, by show 0 + _ = _; omega, by omega⟩
  rintro m e ⟨p, F, g', l', k', s3, rfl, hp, rfl, hd, hG', hFl, hP⟩
  have tl := List.length_pos_iff.mpr th.ne
  have hlt : p < x.length := by
    have z := congrArg List.length hd
    have z2 : ∀ (l : List Sg) (s : List Nat), s.length ≤ (txtR l s).length := fun l s => by
      induction l with
      | nil => exact Nat.le_refl _
      | cons y r ih =>
        obtain ⟨a, b⟩ := y
        show _ ≤ (List.replicate a 32 ++ (b ++ txtR r s)).length
        rw [List.length_append, List.length_append]
        omega
    have z3 := z2 l' (List.replicate k' 32 ++ (t ++ r))
    rw [List.length_drop, List.length_append] at z
    rw [List.length_append, List.length_append] at z3
    omega
  have hcons := List.drop_eq_getElem_cons hlt
  trivial
  refine op_lenS (by omega) ?_
  trivial
  refine ⟨decide_eq_true (by omega), ?_⟩
  have alt : (∃ (g2 : Nat) (l2 : List Sg) (k2 : Nat), x.drop p = 32 :: (List.replicate g2 32 ++ txtR l2 (List.replicate k2 32 ++ (t ++ r))) ∧ GoodR l2 (List.replicate k2 32 ++ (t ++ r)) ∧ l2.length = l'.length ∧ 1 + g2 + wid l2 + k2 = g' + wid l' + k') ∨ (g' = 0 ∧ ∃ u ru, l' = (0, u) :: ru) ∨ (g' = 0 ∧ l' = [] ∧ k' = 0) := by
    rcases stepR (g := g') hG' with ⟨g2, l2, e2, hG2, hl2, hw2⟩ | h | ⟨rfl, rfl⟩
    · exact .inl ⟨g2, l2, k', hd.trans e2, hG2, hl2, by omega⟩
    · exact .inr (.inl h)
    · cases k' with
      | zero => exact .inr (.inr ⟨rfl, rfl, rfl⟩)
      | succ n => exact .inl ⟨n, [], 0, hd.trans rfl, .intro, rfl, by show 1 + n + 0 + 0 = 0 + 0 + (n + 1); omega⟩
  rcases alt with ⟨g2, l2, k2, e2, hG2, hl2, hw2⟩ | ⟨rfl, u, ru, rfl⟩ | ⟨rfl, rfl, rfl⟩
  · refine Or.inr ⟨x.length - (p + 1), by omega, ?_⟩
    rw [e2] at hcons
    injection hcons with hc1 hc2
    trivial
    refine op_at hlt (by omega) ?_
    rw [← hc1]
    trivial
    exact ⟨p + 1, F, g2, l2, k2, s3, rfl, by omega, rfl, hc2.symm, hG2, by omega, by omega⟩
  · -- a token
    refine Or.inr ?_
    obtain ⟨hu, hfol, hGr⟩ := hG'
    obtain ⟨u', eu⟩ := hu.cons
    have hd : x.drop p = u ++ txtR ru (List.replicate k' 32 ++ (t ++ r)) := hd
    have hc1 : x[p] = TOK.hd u := by
      rw [hd, eu] at hcons
      injection hcons with h1 h2
      rw [← h1]
    have hFl : F.length + (ru.length + 1) = l.length := hFl
    have hP : p + 0 + (0 + u.length + wid ru) + k' = g + wid l + k := hP
    have len : (F.map fun q => O.im (tkD q)).length < sizeLine := by
      rw [List.length_map]
      exact Nat.lt_of_lt_of_le (show _ < 1000 by omega) (by decide)
    have hlen : p + u.length ≤ x.length := by
      have := congrArg List.length hd
      rw [List.length_drop, List.length_append] at this
      omega
    have hul := List.length_pos_iff.mpr hu.ne
    refine ⟨x.length - (p + u.length), by omega, ?_⟩
    trivial
    refine op_at hlt (by omega) ?_
    rw [hc1]
    trivial
    refine op_eqS (m := [32]) (ok_one (by rw [← hc1]; exact hox _ (List.getElem_mem hlt))) (ok_one (by omega)) ?_
    trivial
    refine br_dec (fun z => absurd z (fun z => hu.hd_ne (List.cons.inj z).1)) (fun _ => ?_)
    trivial
    rw [flats_map, List.length_map]
    refine br_dec (fun z => ?_) (fun _ => ?_)
    · omega
    trivial
    refine w_callI (ds := [.str _, .int _]) (token_ok hd hz hu hfol) rfl ?_
    trivial
    refine op_lenS (by have := hu.len; omega) ?_
    trivial
    refine ⟨p + u.length, F ++ [(u, p)], 0, ru, k', some (.im (.str (S u))), by rw [List.map_append]; rfl, hlen, rfl, ?_, hGr, by rw [List.length_append]; show F.length + 1 + ru.length = _; omega, by omega⟩
    rw [← List.drop_drop, hd, List.drop_left]
    rfl
  · refine Or.inl ?_
    have hd : x.drop p = t ++ r := hd
    have hc1 : x[p] = TOK.hd t := by
      cases t with
      | nil => exact absurd rfl th.ne
      | cons c t =>
        rw [hd] at hcons
        injection hcons with h1 h2
        rw [← h1]
        rfl
    have hFl : F.length + 0 = l.length := hFl
    have hP : p + 0 + 0 + 0 = g + wid l + k := hP
    refine se_if ?_
    trivial
    refine op_at hlt (by omega) ?_
    rw [hc1]
    trivial
    refine op_eqS (m := [32]) (ok_one (by rw [← hc1]; exact hox _ (List.getElem_mem hlt))) (ok_one (by omega)) ?_
    trivial
    refine br_dec (fun z => absurd z (fun z => th.hd (List.cons.inj z).1)) (fun _ => ?_)
    by_cases h200 : l.length = 200
    · refine se_seqL (se_if ?_)
      trivial
      rw [flats_map, List.length_map]
      refine br_dec (fun _ => ?_) (fun z => ?_)
      · refine se_raise ?_
        trivial
        refine ⟨by show 1 ≤ 4; omega, ?_⟩
        rw [if_pos h200, show g + wid l + k = p by omega]
      · omega
    · have hb : BadT t := by
        rcases hl with hl | hl
        · exact absurd hl h200
        · exact hl.2
      refine se_seqR ?_
      trivial
      rw [flats_map, List.length_map]
      refine br_dec (fun z => ?_) (fun _ => ?_)
      · omega
      trivial
      refine se_seqL (se_set (ee_imR (ee_frz (ee_bindR ?_))))
      trivial
      refine ee_call (ds := [.str _, .int _]) (fe_imp (token_bad hd hz hb hf) fun z hz => ⟨by show 1 ≤ 4; omega, ?_⟩) rfl
      rw [hz, if_neg h200, show g + wid l + k = p by omega]
/-! ### what is told of a text -/
theorem outcome_ok {x : List Nat} {g : Nat} {l : List Sg} {f : Nat} (hx : x = List.replicate g 32 ++ txt l f) (hz : x.length ≤ 20000) (hG : Good l f) (hl : l.length ≤ 200) : FI f__law_outcome [.str (S x)] (· = .im (.tup [.str "none", .int 0])) := by
  refine w_fi ?_
  unfold d__law_outcome
  show SW _ [some (false, .im _), none] _
  refine w_seq (w_try ?_)
  trivial
  refine w_callN (ds := [.str _]) (tokens_ok hx hz hG hl) rfl ?_
  trivial
theorem outcome_bad {x : List Nat} {c : Str} {p : Int} (h : FE f_tokens [.str (S x)] (· = xn c (.int p))) (hc : c = "OverLimit" ∨ c = "BadToken") : FI f__law_outcome [.str (S x)] (· = .im (.tup [.str (if c = "OverLimit" then "limit" else "token"), .int p])) := by
  refine w_fi ?_
  unfold d__law_outcome
  show SW _ [some (false, .im _), none] _
  refine w_seq (w_tryX ?_)
  refine se_drop (ee_bindR ?_)
  trivial
  refine ee_call (ds := [.str _]) (fe_imp h fun z hz => ?_) rfl
  subst hz
  rcases hc with rfl | rfl
  · refine sc_skip rfl ?_
    refine w_hitAs rfl rfl rfl (fun a dd => by simp [srt, sbind, imR, dbind, dtup, dcons, dpure, dlift, dxf, excSlot, xn, clr, clrE, DL.Env.free, SRes.more, Res.more, (by decide : (2 : Nat) ≤ sizeLine)]) ?_
    trivial
    refine w_xf rfl rfl ?_
    trivial
    refine ⟨rfl, ?_, fun o z => by cases z⟩
    trivial
    rfl
  · refine w_hitAs rfl rfl rfl (fun a dd => by simp [srt, sbind, imR, dbind, dtup, dcons, dpure, dlift, dxf, excSlot, xn, clr, clrE, DL.Env.free, SRes.more, Res.more, (by decide : (2 : Nat) ≤ sizeLine)]) ?_
    trivial
    refine w_xf rfl rfl ?_
    trivial
    refine ⟨rfl, ?_, fun o z => by cases z⟩
    trivial
    rfl
end K08

namespace K08
open PySem DL TOK
local macro_rules
  | `(tactic| trivial) => `(tactic| repeat' with_reducible first
    | refine DL.w_seq ?_ | refine DL.w_next ?_ | refine DL.w_if ?_ | refine DL.w_match ?_ | refine DL.pickP_of (by with_unfolding_all decide) ?_ | refine DL.sp_t ?_ | refine DL.sp_f (by with_unfolding_all decide) ?_ | refine DL.sp_n ?_ | refine DL.w_rt ?_ | refine DL.w_set ?_ | refine DL.w_drop ?_ | refine DL.w_app (by with_unfolding_all rfl) ?_ | (refine DL.appP_of (by with_unfolding_all rfl) (by first | assumption | with_unfolding_all exact Nat.le_of_ble_eq_true rfl | (simp only [List.length_append, List.length_map, List.length_cons, List.length_nil]; omega)) ?_; simp only [List.set_cons_succ, List.set_cons_zero, DL.O.flat]) | refine DL.w_forP ?_ | refine DL.w_sforv (by with_unfolding_all rfl) (by with_unfolding_all rfl) ?_ | refine DL.w_asg ?_ | refine DL.w_forV ?_ | refine DL.sqt_if ?_ | refine DL.sqt_rt ?_ | refine DL.sqt_next ?_
    | exact DL.us_next | exact DL.us_bk | exact DL.us_ct | exact DL.us_rtN | refine DL.us_seq ?_ ?_ | refine DL.us_if ?_ ?_ ?_ | refine DL.us_rt ?_ | refine DL.us_drop ?_ | refine DL.us_setI (by decide) ?_
    | exact DL.ud_pure | exact DL.ud_lift | exact DL.ud_xf | exact DL.ud_xi | exact DL.ud_var (by decide) | exact DL.ud_frz (by decide)
    | refine DL.ud_imR ?_ | refine DL.ud_vw ?_ | refine DL.ud_dtup ?_ | refine DL.ud_dlst ?_ | refine DL.ud_dcons ?_ ?_ | refine DL.ud_dconsV ?_ ?_ | refine DL.ud_dbin ?_ ?_ | refine DL.ud_dcmp ?_ ?_ | refine DL.ud_dtB ?_ | refine DL.ud_dtru ?_
    | refine DL.ud_dnot ?_ | refine DL.ud_dand ?_ ?_ | refine DL.ud_dor ?_ ?_ | refine DL.ud_dnotV ?_ | refine DL.ud_dandV ?_ ?_ | refine DL.ud_dorV ?_ ?_ | refine DL.ud_dif ?_ ?_ ?_ | (refine DL.ud_bind ?_ fun _ => ?_)
    | refine DL.w_frzI (by with_unfolding_all rfl) ?_ | refine DL.w_vwI (by with_unfolding_all rfl) ?_ | refine DL.w_owO (by with_unfolding_all rfl) ?_ | refine DL.w_varI (by with_unfolding_all rfl) ?_ | refine DL.w_varL (by with_unfolding_all rfl) ?_ | refine DL.w_varT (by with_unfolding_all rfl) ?_
    | refine DL.w_vwO (by with_unfolding_all rfl) ?_ | (refine DL.w_frzO (by with_unfolding_all rfl) ?_; simp only [List.set_cons_succ, List.set_cons_zero, DL.O.flat])
    | refine DL.w_pure ?_ | refine DL.w_dq ?_ | refine DL.w_imR ?_ | refine DL.w_imD ?_ | refine DL.w_fl ?_ | refine DL.w_bin ?_ | refine DL.w_cmp ?_ | refine DL.w_rev ?_ | refine DL.w_cat ?_ | refine DL.w_chain ?_ | refine DL.w_dtB ?_ | refine DL.w_dtru ?_
    | refine DL.w_dand ?_ | refine DL.w_dor ?_ | refine DL.w_dnot ?_ | refine DL.w_dandV ?_ | refine DL.w_dorV ?_ | refine DL.w_dnotV ?_ | refine DL.w_dif ?_
    | refine DL.w_dcons ?_ | refine DL.w_dconsV ?_ | refine DL.w_darcons ?_ | (refine DL.w_dtup ?_) | refine DL.w_dlst ?_ | refine DL.w_dixO ?_ | refine DL.w_sq ?_ | refine DL.w_dixX ?_ | refine DL.w_listX ?_ | refine DL.w_sorted ?_ | refine DL.w_un ?_ | refine DL.w_sqC ?_ | refine DL.w_forC ?_ | refine DL.op_fldI (by with_unfolding_all rfl) ?_ | refine DL.w_rg ?_ | refine DL.w_rvO ?_ | refine DL.w_dslice ?_ | refine DL.w_dtmc ?_ | refine DL.w_dtupN ?_ | refine DL.w_dlist ?_ | refine DL.w_dtuple ?_ | refine DL.w_tupV ?_ | refine DL.w_listV ?_
    | refine DL.w_bind ?_ | refine DL.w_lift ?_ | refine DL.w_frz ?_ | refine DL.w_vw ?_ | refine DL.w_ow ?_
    | refine DL.frzP_im ?_ | refine DL.frzP_new ?_ | refine DL.vwP_im ?_ | refine DL.vwP_new ?_ | refine DL.vwP_bor ?_ | refine DL.owP_im ?_ | refine DL.owP_new ?_ | refine DL.owP_bor ?_
    | (refine DL.setP_im (by with_unfolding_all first | rfl | exact DL.fo_free rfl) ?_; simp only [List.set_cons_succ, List.set_cons_zero, DL.O.flat]) | (refine DL.setP_new (by with_unfolding_all first | rfl | exact DL.fo_free rfl) ?_; simp only [List.set_cons_succ, List.set_cons_zero, DL.O.flat])
    | refine DL.argP_im ?_ | refine DL.argP_new ?_ | refine DL.argP_bor ?_ | refine DL.rvP_im ?_ | refine DL.rvP_new ?_ | refine DL.mvP_im ?_ | refine DL.mvP_new ?_ | (refine DL.mvP_bor (by with_unfolding_all rfl) ?_; simp only [List.set_cons_succ, List.set_cons_zero]) | refine DL.itP_im ?_ | refine DL.itP_new ?_ | refine DL.tuP_lst ?_ | refine DL.blP_of ?_
    | refine DL.op_rng (by with_unfolding_all decide) ?_ | refine DL.op_rngG ?_ | refine DL.op_isiII ?_ | refine DL.op_isiIB ?_ | refine DL.op_isiTT ?_ | refine DL.op_isiLL ?_
    | refine DL.op_eq ?_ | refine DL.op_ne ?_ | refine DL.br_t ?_ | refine DL.br_f ?_ | refine DL.br_not ?_ | refine DL.br_eqT (by with_unfolding_all rfl) ?_ | refine DL.br_eqF (by with_unfolding_all rfl) ?_
    | refine DL.sz (by with_unfolding_all exact Nat.le_of_ble_eq_true rfl) ?_
    | refine DL.outI_im (by with_unfolding_all exact Nat.le_of_ble_eq_true rfl) ?_ | refine DL.outI_new (by with_unfolding_all exact Nat.le_of_ble_eq_true rfl) ?_ | refine DL.outI_bor (by with_unfolding_all exact Nat.le_of_ble_eq_true rfl) (by with_unfolding_all rfl) ?_
    | refine DL.op_mod (by with_unfolding_all decide) ?_ | refine DL.op_div (by with_unfolding_all decide) ?_ | refine DL.op_mul (DL.mul_r (by with_unfolding_all decide)) ?_ | refine DL.op_mul (DL.mul_l (by with_unfolding_all decide)) ?_ | refine DL.op_pow (by with_unfolding_all decide) ?_
    | refine DL.w_op (by with_unfolding_all rfl) ?_ | rfl)

theorem family_ok {x : List Nat} {g : Nat} {l : List Sg} {f : Nat} (hx : x = List.replicate g 32 ++ txt l f) (hz : x.length ≤ 20000) (hG : Good l f) (hl : l.length ≤ 200) : FI f__law_family [.str (S x), .str "none"] (· = .im (.bl true)) := by
  refine w_fi ?_
  unfold d__law_family
  show SW _ [some (false, .im _), some (false, .im _), none] _
  refine w_seq (w_try ?_)
  trivial
  refine w_callN (ds := [.str _]) (tokens_ok hx hz hG hl) rfl ?_
  trivial
  rfl
theorem family_bad {x : List Nat} {c : Str} {w : Str} {p : Int} (h : FE f_tokens [.str (S x)] (· = xn c (.int p))) (hc : c = "OverLimit" ∧ w = "limit" ∨ c = "BadToken" ∧ w = "token") : FI f__law_family [.str (S x), .str w] (· = .im (.bl true)) := by
  refine w_fi ?_
  unfold d__law_family
  show SW _ [some (false, .im _), some (false, .im _), none] _
  refine w_seq (w_tryX ?_)
  refine se_drop (ee_bindR ?_)
  trivial
  refine ee_call (ds := [.str _]) (fe_imp h fun z hz => ?_) rfl
  subst hz
  rcases hc with ⟨rfl, rfl⟩ | ⟨rfl, rfl⟩
  · refine w_hitAs rfl rfl rfl (us_uni (by trivial) rfl) ?_
    repeat (trivial; refine w_xi rfl rfl ?_)
    trivial
    refine ⟨rfl, ?_, fun o z => by cases z⟩
    trivial
    rfl
  · refine w_hitAs rfl rfl rfl (us_uni (by trivial) rfl) ?_
    repeat (trivial; refine w_xi rfl rfl ?_)
    trivial
    refine ⟨rfl, ?_, fun o z => by cases z⟩
    trivial
    rfl
end K08

namespace K08
open PySem DL TOK
local macro_rules
  | `(tactic| trivial) => `(tactic| repeat' with_reducible first
    | refine DL.w_seq ?_ | refine DL.w_next ?_ | refine DL.w_if ?_ | refine DL.w_match ?_ | refine DL.pickP_of (by with_unfolding_all decide) ?_ | refine DL.sp_t ?_ | refine DL.sp_f (by with_unfolding_all decide) ?_ | refine DL.sp_n ?_ | refine DL.w_rt ?_ | refine DL.w_set ?_ | refine DL.w_drop ?_ | refine DL.w_app (by with_unfolding_all rfl) ?_ | (refine DL.appP_of (by with_unfolding_all rfl) (by first | assumption | with_unfolding_all exact Nat.le_of_ble_eq_true rfl | (simp only [List.length_append, List.length_map, List.length_cons, List.length_nil]; omega)) ?_; simp only [List.set_cons_succ, List.set_cons_zero, DL.O.flat]) | refine DL.w_forP ?_ | refine DL.w_sforv (by with_unfolding_all rfl) (by with_unfolding_all rfl) ?_ | refine DL.w_asg ?_ | refine DL.w_forV ?_ | refine DL.sqt_if ?_ | refine DL.sqt_rt ?_ | refine DL.sqt_next ?_
    | refine DL.w_frzI (by with_unfolding_all rfl) ?_ | refine DL.w_vwI (by with_unfolding_all rfl) ?_ | refine DL.w_owO (by with_unfolding_all rfl) ?_ | refine DL.w_varI (by with_unfolding_all rfl) ?_ | refine DL.w_varL (by with_unfolding_all rfl) ?_ | refine DL.w_varT (by with_unfolding_all rfl) ?_
    | refine DL.w_vwO (by with_unfolding_all rfl) ?_ | (refine DL.w_frzO (by with_unfolding_all rfl) ?_; simp only [List.set_cons_succ, List.set_cons_zero, DL.O.flat])
    | refine DL.w_pure ?_ | refine DL.w_dq ?_ | refine DL.w_imR ?_ | refine DL.w_imD ?_ | refine DL.w_fl ?_ | refine DL.w_bin ?_ | refine DL.w_cmp ?_ | refine DL.w_rev ?_ | refine DL.w_cat ?_ | refine DL.w_chain ?_ | refine DL.w_dtB ?_ | refine DL.w_dtru ?_
    | refine DL.w_dand ?_ | refine DL.w_dor ?_ | refine DL.w_dnot ?_ | refine DL.w_dandV ?_ | refine DL.w_dorV ?_ | refine DL.w_dnotV ?_ | refine DL.w_dif ?_
    | refine DL.w_dcons ?_ | refine DL.w_dconsV ?_ | refine DL.w_darcons ?_ | (refine DL.w_dtup ?_) | refine DL.w_dlst ?_ | refine DL.w_dixO ?_ | refine DL.w_sq ?_ | refine DL.w_dixX ?_ | refine DL.w_listX ?_ | refine DL.w_sorted ?_ | refine DL.w_un ?_ | refine DL.w_sqC ?_ | refine DL.w_forC ?_ | refine DL.op_fldI (by with_unfolding_all rfl) ?_ | refine DL.w_rg ?_ | refine DL.w_rvO ?_ | refine DL.w_dslice ?_ | refine DL.w_dtmc ?_ | refine DL.w_dtupN ?_ | refine DL.w_dlist ?_ | refine DL.w_dtuple ?_ | refine DL.w_tupV ?_ | refine DL.w_listV ?_
    | refine DL.w_bind ?_ | refine DL.w_lift ?_ | refine DL.w_frz ?_ | refine DL.w_vw ?_ | refine DL.w_ow ?_
    | refine DL.frzP_im ?_ | refine DL.frzP_new ?_ | refine DL.vwP_im ?_ | refine DL.vwP_new ?_ | refine DL.vwP_bor ?_ | refine DL.owP_im ?_ | refine DL.owP_new ?_ | refine DL.owP_bor ?_
    | (refine DL.setP_im (by with_unfolding_all first | rfl | exact DL.fo_free rfl) ?_; simp only [List.set_cons_succ, List.set_cons_zero, DL.O.flat]) | (refine DL.setP_new (by with_unfolding_all first | rfl | exact DL.fo_free rfl) ?_; simp only [List.set_cons_succ, List.set_cons_zero, DL.O.flat])
    | refine DL.argP_im ?_ | refine DL.argP_new ?_ | refine DL.argP_bor ?_ | refine DL.rvP_im ?_ | refine DL.rvP_new ?_ | refine DL.mvP_im ?_ | refine DL.mvP_new ?_ | (refine DL.mvP_bor (by with_unfolding_all rfl) ?_; simp only [List.set_cons_succ, List.set_cons_zero]) | refine DL.itP_im ?_ | refine DL.itP_new ?_ | refine DL.tuP_lst ?_ | refine DL.blP_of ?_
    | refine DL.op_rng (by with_unfolding_all decide) ?_ | refine DL.op_rngG ?_ | refine DL.op_isiII ?_ | refine DL.op_isiIB ?_ | refine DL.op_isiTT ?_ | refine DL.op_isiLL ?_
    | refine DL.op_eq ?_ | refine DL.op_ne ?_ | refine DL.br_t ?_ | refine DL.br_f ?_ | refine DL.br_not ?_ | refine DL.br_eqT (by with_unfolding_all rfl) ?_ | refine DL.br_eqF (by with_unfolding_all rfl) ?_
    | refine DL.sz (by with_unfolding_all exact Nat.le_of_ble_eq_true rfl) ?_
    | refine DL.outI_im (by with_unfolding_all exact Nat.le_of_ble_eq_true rfl) ?_ | refine DL.outI_new (by with_unfolding_all exact Nat.le_of_ble_eq_true rfl) ?_ | refine DL.outI_bor (by with_unfolding_all exact Nat.le_of_ble_eq_true rfl) (by with_unfolding_all rfl) ?_
    | refine DL.op_mod (by with_unfolding_all decide) ?_ | refine DL.op_div (by with_unfolding_all decide) ?_ | refine DL.op_mul (DL.mul_r (by with_unfolding_all decide)) ?_ | refine DL.op_mul (DL.mul_l (by with_unfolding_all decide)) ?_ | refine DL.op_pow (by with_unfolding_all decide) ?_
    | refine DL.w_op (by with_unfolding_all rfl) ?_ | rfl)

theorem big2_ok {ds : List Int} (h : nn ds) : FO f__law_big [dl ds] fun os' r => ∃ ds' k, os' = [dl ds'] ∧ nn ds' ∧ r = .im (.int k) ∧ 0 ≤ k ∧ k < 1000000000000000000 := by
  refine w_fun ?_
  unfold d__law_big
  show SW _ [some (true, _), none, none] _
  trivial
  refine sw_range (n := 6) (fun i e => ∃ ds k s2, e = [some (true, dl ds), some (false, .im (.int k)), fo s2] ∧ nn ds ∧ 0 ≤ k ∧ k < 1000 ^ i) ⟨ds, 0, none, rfl, h, by omega, by decide⟩ ?_ ?_
  · rintro i e hi ⟨ds, k, s2, rfl, h, hk, hk2⟩
    refine ⟨[some (true, dl ds), some (false, .im (.int k)), some (false, .im (.int i))], by cases s2 <;> rfl, ?_⟩
    trivial
    refine w_fo (draw_ok h (m := 1000) (by omega) (by omega)) rfl rfl (.inl rfl) ?_
    rintro os' r ⟨ds', v, rfl, h', rfl, h0, h1⟩
    refine ⟨_, rfl, ?_⟩
    simp only [List.set_cons_succ, List.set_cons_zero, rvF]
    trivial
    refine ⟨ds', _, some _, rfl, h', by omega, ?_⟩
    rw [Int.pow_succ]
    omega
  · rintro e ⟨ds, k, s2, rfl, h, hk, hk2⟩
    trivial
    refine ⟨_, rfl, ds, k, rfl, h, rfl, hk, hk2⟩
theorem op_chr {z : Str} {k : Int} {P : D → Prop} (h0 : 0 ≤ k) (h1 : k < z.cps.toList.length) (hz : z.cps.toList.length ≤ 1000) (p : ∀ c ∈ z.cps.toList, P (.str (S [c]))) : OP (elemD (.str z) (.int k)) P := by
  have hlt : k.toNat < z.cps.toList.length := by omega
  refine ⟨.str (S [z.cps.toList[k.toNat]]), ?_, p _ (List.getElem_mem _)⟩
  show (if z.length ≤ sizeLine then (L2.atI z.cps.toList k).map fun c => D.str ⟨#[c]⟩ else none) = _
  have hl : z.length ≤ 1000 := by
    have : z.length = z.cps.toList.length := by simp [Str.length]
    omega
  rw [if_pos (Nat.le_trans hl (by decide)), atI_nn _ _ h0, List.getElem?_eq_getElem hlt]
  rfl
theorem op_strN {n : Int} {P : D → Prop} (h0 : 0 ≤ n) (h : n.toNat < 10 ^ 60) (p : P (.str (S (TL.numL n.toNat)))) : OP (strD [.int n]) P := by
  obtain ⟨m, rfl⟩ : ∃ m : Nat, n = m := ⟨n.toNat, by omega⟩
  rw [Int.toNat_natCast] at h p
  refine ⟨.str (S (TL.numL m)), ?_, p⟩
  show (if ((m : Nat) : Int).natAbs.log2 < 1920 then some (D.str (Str.ofString (toString ((m : Nat) : Int)))) else none) = _
  have e : S (TL.numL m) = Str.ofString (toString ((m : Nat) : Int)) := TL.ext_tl (TL.tl_num m).symm
  rw [e, if_pos]
  show m.log2 < 1920
  by_cases h0 : m = 0
  · subst h0; decide
  · rw [Nat.log2_lt h0]
    exact Nat.lt_trans h (by decide +kernel)
abbrev capS : Str := Str.ofString "ABCDEFGHIJKLMNOPQRSTUVWXYZ"
abbrev oddS : Str := Str.ofString "!\"#$&'./:>?@^_\\`{|}~"
def oddB (c : Nat) : Bool := decide (c < 128) && !dig c && !ltr c && !decide (c ∈ sgs) && decide (c ≠ 32)
theorem cap_all : capS.cps.toList.all oddB = true ∧ capS.cps.toList.length = 26 := by decide +kernel
theorem odd_all : oddS.cps.toList.all oddB = true ∧ oddS.cps.toList.length = 20 := by decide +kernel
theorem odd_bad {c : Nat} (h : oddB c = true) : BadT [c] := by
  unfold oddB at h
  simp only [Bool.and_eq_true, Bool.not_eq_true', decide_eq_true_iff, decide_eq_false_iff_not] at h
  exact .inr (.inr ⟨c, rfl, h.1.1.1.1, h.1.1.1.2, h.1.1.2, h.1.2, h.2⟩)
/-- what a bad thing is, cut or not -/
def Bd (b : List Nat) : Prop := BadT b ∧ BadT (b.take 40) ∧ b.length ≤ 41
theorem bd_short {b : List Nat} (h : BadT b) (hl : b.length ≤ 40) : Bd b := ⟨h, by rw [List.take_of_length_le hl]; exact h, by omega⟩
theorem bad_ok {ds : List Int} (h : nn ds) : FO f__law_bad [dl ds] fun os' r => ∃ ds' b, os' = [dl ds'] ∧ nn ds' ∧ r = .im (.str (S b)) ∧ Bd b := by
  refine w_fun ?_
  unfold d__law_bad
  show SW _ [some (true, _), none, none, none, none] _
  trivial
  refine w_fo (draw_ok h (m := 6) (by omega) (by omega)) rfl rfl (.inl rfl) ?_
  rintro os' r ⟨ds, v, rfl, h, rfl, h0, h1⟩
  refine ⟨_, rfl, ?_⟩
  simp only [List.set_cons_succ, List.set_cons_zero, rvF]
  trivial
  refine br_dec (fun hv => ?_) (fun hv => ?_)
  · trivial
    refine w_fo (draw_ok h (m := 1000) (by omega) (by omega)) rfl rfl (.inl rfl) ?_
    rintro os' r ⟨ds, k, rfl, h, rfl, k0, k1⟩
    refine ⟨_, rfl, ?_⟩
    simp only [List.set_cons_succ, List.set_cons_zero, rvF]
    trivial
    refine op_strN k0 (by have : k.toNat < 1000 := by omega
                          exact Nat.lt_trans this (by decide)) ?_
    trivial
    have hl := TL.numL_len (n := k.toNat) (k := 3) (by omega) (show k.toNat < 10 ^ 3 by have : (10 : Nat) ^ 3 = 1000 := rfl; omega)
    refine op_cat (l := [48]) (by show 1 + _ ≤ _; omega) ?_
    trivial
    exact ⟨_, rfl, ds, 48 :: TL.numL k.toNat, rfl, h, rfl, bd_short (.inl (bad_zero k.toNat (by omega))) (by show (TL.numL k.toNat).length + 1 ≤ 40; omega)⟩
  trivial
  refine br_dec (fun hv1 => ?_) (fun hv1 => ?_)
  · trivial
    refine w_fo (big2_ok h) rfl rfl (.inl rfl) ?_
    rintro os' r ⟨ds, b, rfl, h, rfl, b0, b1⟩
    refine ⟨_, rfl, ?_⟩
    simp only [List.set_cons_succ, List.set_cons_zero, rvF]
    trivial
    refine w_fo (draw_ok h (m := 2) (by omega) (by omega)) rfl rfl (.inl rfl) ?_
    rintro os' r ⟨ds, k, rfl, h, rfl, k0, k1⟩
    refine ⟨_, rfl, ?_⟩
    simp only [List.set_cons_succ, List.set_cons_zero, rvF]
    trivial
    have fin : ∀ n : Int, 1000000000000000 < n → n < 10 ^ 19 → Bd (TL.numL n.toNat) := fun n hn1 hn2 => by
      have hl := TL.numL_len (n := n.toNat) (k := 19) (by omega) (by have : (10 : Nat) ^ 19 = 10000000000000000000 := rfl; have : (10 : Int) ^ 19 = 10000000000000000000 := rfl; omega)
      refine bd_short (.inl (bad_num ?_ (by omega))) (by omega)
      have : n.toNat < 10000000000000000000 := by have : (10 : Int) ^ 19 = 10000000000000000000 := rfl; omega
      exact Nat.lt_trans this (by decide)
    have sm : ∀ n : Int, n < 10 ^ 19 → n.toNat < 10 ^ 60 := fun n hn => by
      have : n.toNat < 10000000000000000000 := by have : (10 : Int) ^ 19 = 10000000000000000000 := rfl; omega
      exact Nat.lt_trans this (by decide)
    have e19 : (10 : Int) ^ 19 = 10000000000000000000 := rfl
    obtain ⟨i, hi, rfl⟩ := lsD (n := 2) k0 k1
    rcases (by omega : i = 0 ∨ i = 1) with rfl | rfl
    · refine ⟨.int 0, rfl, ?_⟩
      trivial
      exact ⟨_, rfl, ds, TL.numL 1000000000000001, rfl, h, by rw [show S (TL.numL 1000000000000001) = Str.ofString (toString ((1000000000000001 : Nat) : Int)) from TL.ext_tl (TL.tl_num 1000000000000001).symm]; rfl, fin 1000000000000001 (by omega) (by omega)⟩
    · refine ⟨.int b, rfl, ?_⟩
      trivial
      refine op_strN (n := 1000000000000001 + b) (by omega) (sm _ (by omega)) ?_
      trivial
      exact ⟨_, rfl, ds, _, rfl, h, rfl, fin (1000000000000001 + b) (by omega) (by omega)⟩
  trivial
  refine br_dec (fun hv2 => ?_) (fun hv2 => ?_)
  · trivial
    refine w_fo (big2_ok h) rfl rfl (.inl rfl) ?_
    rintro os' r ⟨ds, b, rfl, h, rfl, b0, b1⟩
    refine ⟨_, rfl, ?_⟩
    simp only [List.set_cons_succ, List.set_cons_zero, rvF]
    trivial
    have e40 : (10000000000000000000000000000000000000000 + b).toNat < 10 ^ 41 := by
      have : (10 : Nat) ^ 41 = 100000000000000000000000000000000000000000 := rfl
      omega
    refine op_strN (n := 10000000000000000000000000000000000000000 + b) (by omega) (Nat.lt_trans e40 (by decide)) ?_
    trivial
    have hl := TL.numL_len (k := 41) (by omega) e40
    exact ⟨_, rfl, ds, _, rfl, h, rfl, .inl (bad_num (Nat.lt_trans e40 (by decide)) (by omega)), .inl (numL_take e40 (by omega)), hl⟩
  trivial
  refine br_dec (fun hv3 => ?_) (fun hv3 => ?_)
  · trivial
    refine w_fo (draw_ok h (m := 28) (by omega) (by omega)) rfl rfl (.inl rfl) ?_
    rintro os' r ⟨ds, k, rfl, h, rfl, k0, k1⟩
    refine ⟨_, rfl, ?_⟩
    simp only [List.set_cons_succ, List.set_cons_zero, rvF]
    trivial
    refine ⟨⟨by omega, by omega⟩, ?_⟩
    refine sw_range (fun i e => ∃ ds t s3, e = [some (true, dl ds), some (false, .im (.int v)), some (false, .im (.str (S t))), fo s3, none] ∧ nn ds ∧ t.length = 13 + i ∧ ∀ c ∈ t, ltr c = true) ⟨ds, [97, 98, 99, 100, 101, 102, 103, 104, 105, 106, 107, 108, 109], none, rfl, h, rfl, by decide⟩ ?_ ?_
    · rintro i e hi ⟨ds, t, s3, rfl, h, hl, ht⟩
      refine ⟨[some (true, dl ds), some (false, .im (.int v)), some (false, .im (.str (S t))), some (false, .im (.int i)), none], by cases s3 <;> rfl, ?_⟩
      trivial
      refine w_fo (draw_ok h (m := 26) (by omega) (by omega)) rfl rfl (.inl rfl) ?_
      rintro os' r ⟨ds', w, rfl, h', rfl, h0, h1⟩
      refine ⟨_, rfl, ?_⟩
      simp only [List.set_cons_succ, List.set_cons_zero, rvF]
      trivial
      refine op_ltr h0 h1 fun c hc => ?_
      trivial
      refine op_cat (by show t.length + 1 ≤ 20000; omega) ?_
      trivial
      refine ⟨ds', t ++ [c], some _, rfl, h', by rw [List.length_append, hl]; rfl, fun d hd => ?_⟩
      rcases List.mem_append.mp hd with k | k
      · exact ht d k
      · rw [List.mem_singleton.mp k]; exact hc
    · rintro e ⟨ds, t, s3, rfl, h, hl, ht⟩
      trivial
      have : t.length ≤ 40 := by omega
      exact ⟨_, rfl, ds, t, rfl, h, rfl, bd_short (.inr (.inl ⟨ht, by omega, by omega⟩)) this⟩
  trivial
  refine br_dec (fun hv4 => ?_) (fun hv4 => ?_)
  · trivial
    refine w_fo (draw_ok h (m := 26) (by omega) (by omega)) rfl rfl (.inl rfl) ?_
    rintro os' r ⟨ds, k, rfl, h, rfl, k0, k1⟩
    refine ⟨_, rfl, ?_⟩
    simp only [List.set_cons_succ, List.set_cons_zero, rvF]
    trivial
    refine op_chr k0 (by rw [cap_all.2]; omega) (by rw [cap_all.2]; omega) fun c hc => ?_
    trivial
    exact ⟨_, rfl, ds, [c], rfl, h, rfl, bd_short (odd_bad (List.all_eq_true.mp cap_all.1 c hc)) (by show 1 ≤ 40; omega)⟩
  trivial
  refine w_fo (draw_ok h (m := 1000) (by omega) (by omega)) rfl rfl (.inl rfl) ?_
  rintro os' r ⟨ds, k, rfl, h, rfl, k0, k1⟩
  refine ⟨_, rfl, ?_⟩
  simp only [List.set_cons_succ, List.set_cons_zero, rvF]
  trivial
  have f := fm k (b := 20) (by omega)
  have e20 : ((oddS.length : Nat) : Int) = 20 := by decide +kernel
  refine op_chr (k := k.fmod ((oddS.length : Nat) : Int)) (by rw [e20]; exact f.1) (by rw [e20, odd_all.2]; exact f.2) (by rw [odd_all.2]; omega) fun c hc => ?_
  trivial
  exact ⟨_, rfl, ds, [c], rfl, h, rfl, bd_short (odd_bad (List.all_eq_true.mp odd_all.1 c hc)) (by show 1 ≤ 40; omega)⟩
end K08

namespace K08
open PySem DL TOK
local macro_rules
  | `(tactic| trivial) => `(tactic| repeat' with_reducible first
    | refine DL.w_seq ?_ | refine DL.w_next ?_ | refine DL.w_if ?_ | refine DL.w_match ?_ | refine DL.pickP_of (by with_unfolding_all decide) ?_ | refine DL.sp_t ?_ | refine DL.sp_f (by with_unfolding_all decide) ?_ | refine DL.sp_n ?_ | refine DL.w_rt ?_ | refine DL.w_set ?_ | refine DL.w_drop ?_ | refine DL.w_app (by with_unfolding_all rfl) ?_ | (refine DL.appP_of (by with_unfolding_all rfl) (by first | assumption | with_unfolding_all exact Nat.le_of_ble_eq_true rfl | (simp only [List.length_append, List.length_map, List.length_cons, List.length_nil]; omega)) ?_; simp only [List.set_cons_succ, List.set_cons_zero, DL.O.flat]) | refine DL.w_forP ?_ | refine DL.w_sforv (by with_unfolding_all rfl) (by with_unfolding_all rfl) ?_ | refine DL.w_asg ?_ | refine DL.w_forV ?_ | refine DL.sqt_if ?_ | refine DL.sqt_rt ?_ | refine DL.sqt_next ?_
    | exact DL.us_next | exact DL.us_bk | exact DL.us_ct | exact DL.us_rtN | refine DL.us_seq ?_ ?_ | refine DL.us_if ?_ ?_ ?_ | refine DL.us_rt ?_ | refine DL.us_drop ?_ | refine DL.us_setI (by decide) ?_
    | exact DL.ud_pure | exact DL.ud_lift | exact DL.ud_xf | exact DL.ud_xi | exact DL.ud_var (by decide) | exact DL.ud_frz (by decide)
    | refine DL.ud_imR ?_ | refine DL.ud_vw ?_ | refine DL.ud_dtup ?_ | refine DL.ud_dlst ?_ | refine DL.ud_dcons ?_ ?_ | refine DL.ud_dconsV ?_ ?_ | refine DL.ud_dbin ?_ ?_ | refine DL.ud_dcmp ?_ ?_ | refine DL.ud_dtB ?_ | refine DL.ud_dtru ?_
    | refine DL.ud_dnot ?_ | refine DL.ud_dand ?_ ?_ | refine DL.ud_dor ?_ ?_ | refine DL.ud_dnotV ?_ | refine DL.ud_dandV ?_ ?_ | refine DL.ud_dorV ?_ ?_ | refine DL.ud_dif ?_ ?_ ?_ | (refine DL.ud_bind ?_ fun _ => ?_)
    | refine DL.w_frzI (by with_unfolding_all rfl) ?_ | refine DL.w_vwI (by with_unfolding_all rfl) ?_ | refine DL.w_owO (by with_unfolding_all rfl) ?_ | refine DL.w_varI (by with_unfolding_all rfl) ?_ | refine DL.w_varL (by with_unfolding_all rfl) ?_ | refine DL.w_varT (by with_unfolding_all rfl) ?_
    | refine DL.w_vwO (by with_unfolding_all rfl) ?_ | (refine DL.w_frzO (by with_unfolding_all rfl) ?_; simp only [List.set_cons_succ, List.set_cons_zero, DL.O.flat])
    | refine DL.w_pure ?_ | refine DL.w_dq ?_ | refine DL.w_imR ?_ | refine DL.w_imD ?_ | refine DL.w_fl ?_ | refine DL.w_bin ?_ | refine DL.w_cmp ?_ | refine DL.w_rev ?_ | refine DL.w_cat ?_ | refine DL.w_chain ?_ | refine DL.w_dtB ?_ | refine DL.w_dtru ?_
    | refine DL.w_dand ?_ | refine DL.w_dor ?_ | refine DL.w_dnot ?_ | refine DL.w_dandV ?_ | refine DL.w_dorV ?_ | refine DL.w_dnotV ?_ | refine DL.w_dif ?_
    | refine DL.w_dcons ?_ | refine DL.w_dconsV ?_ | refine DL.w_darcons ?_ | (refine DL.w_dtup ?_) | refine DL.w_dlst ?_ | refine DL.w_dixO ?_ | refine DL.w_sq ?_ | refine DL.w_dixX ?_ | refine DL.w_listX ?_ | refine DL.w_sorted ?_ | refine DL.w_un ?_ | refine DL.w_sqC ?_ | refine DL.w_forC ?_ | refine DL.op_fldI (by with_unfolding_all rfl) ?_ | refine DL.w_rg ?_ | refine DL.w_rvO ?_ | refine DL.w_dslice ?_ | refine DL.w_dtmc ?_ | refine DL.w_dtupN ?_ | refine DL.w_dlist ?_ | refine DL.w_dtuple ?_ | refine DL.w_tupV ?_ | refine DL.w_listV ?_
    | refine DL.w_bind ?_ | refine DL.w_lift ?_ | refine DL.w_frz ?_ | refine DL.w_vw ?_ | refine DL.w_ow ?_
    | refine DL.frzP_im ?_ | refine DL.frzP_new ?_ | refine DL.vwP_im ?_ | refine DL.vwP_new ?_ | refine DL.vwP_bor ?_ | refine DL.owP_im ?_ | refine DL.owP_new ?_ | refine DL.owP_bor ?_
    | (refine DL.setP_im (by with_unfolding_all first | rfl | exact DL.fo_free rfl) ?_; simp only [List.set_cons_succ, List.set_cons_zero, DL.O.flat]) | (refine DL.setP_new (by with_unfolding_all first | rfl | exact DL.fo_free rfl) ?_; simp only [List.set_cons_succ, List.set_cons_zero, DL.O.flat])
    | refine DL.argP_im ?_ | refine DL.argP_new ?_ | refine DL.argP_bor ?_ | refine DL.rvP_im ?_ | refine DL.rvP_new ?_ | refine DL.mvP_im ?_ | refine DL.mvP_new ?_ | (refine DL.mvP_bor (by with_unfolding_all rfl) ?_; simp only [List.set_cons_succ, List.set_cons_zero]) | refine DL.itP_im ?_ | refine DL.itP_new ?_ | refine DL.tuP_lst ?_ | refine DL.blP_of ?_
    | refine DL.op_rng (by with_unfolding_all decide) ?_ | refine DL.op_rngG ?_ | refine DL.op_isiII ?_ | refine DL.op_isiIB ?_ | refine DL.op_isiTT ?_ | refine DL.op_isiLL ?_
    | refine DL.op_eq ?_ | refine DL.op_ne ?_ | refine DL.br_t ?_ | refine DL.br_f ?_ | refine DL.br_not ?_ | refine DL.br_eqT (by with_unfolding_all rfl) ?_ | refine DL.br_eqF (by with_unfolding_all rfl) ?_
    | refine DL.sz (by with_unfolding_all exact Nat.le_of_ble_eq_true rfl) ?_
    | refine DL.outI_im (by with_unfolding_all exact Nat.le_of_ble_eq_true rfl) ?_ | refine DL.outI_new (by with_unfolding_all exact Nat.le_of_ble_eq_true rfl) ?_ | refine DL.outI_bor (by with_unfolding_all exact Nat.le_of_ble_eq_true rfl) (by with_unfolding_all rfl) ?_
    | refine DL.op_mod (by with_unfolding_all decide) ?_ | refine DL.op_div (by with_unfolding_all decide) ?_ | refine DL.op_mul (DL.mul_r (by with_unfolding_all decide)) ?_ | refine DL.op_mul (DL.mul_l (by with_unfolding_all decide)) ?_ | refine DL.op_pow (by with_unfolding_all decide) ?_
    | refine DL.w_op (by with_unfolding_all rfl) ?_ | rfl)

theorem w_compT {γ : Type} {src : Den (List D)} {bind : D → DL.Env → Option DL.Env} {elt : Den Rv} {vs : List Nat} {P : Rv → DL.Env → Prop} {e : DL.Env} (g : γ → D) (Iv : Nat → List O → DL.Env → Prop)
    (p : EW false src e fun ds e' => ∃ l : List γ, ds = l.map g ∧ wiped e' vs = true ∧ l.length ≤ sizeLine ∧ Iv 0 [] (wipeE e' vs) ∧
      (∀ (i : Nat) (a : γ) (acc : List O) e1, l[i]? = some a → Iv i acc e1 → OP (bind (g a) e1) fun e2 => EW false elt e2 fun rv e3 => rvP rv e3 fun o e4 => Iv (i + 1) (acc ++ [o]) (wipeE e4 vs)) ∧
      ∀ acc e1, Iv l.length acc e1 → P (.new (.lst acc)) (restE e' e1 vs)) : EW false (dcomp src bind (dpure true) elt vs) e P := by
  obtain ⟨m, e', ds, h1, h2, l, h3⟩ := p
  exact w_compS l g Iv ⟨m, e', ds, h1, h2, h3⟩
abbrev Tg := List Nat × Bool
def thD (q : Tg) : D := .tup [.str (S q.1), .bl q.2]
def thOk (q : Tg) : Prop := (q.2 = false ∧ Tok q.1) ∨ (q.2 = true ∧ BadT q.1)
abbrev thL (T : List Tg) : O := .lst (T.map fun q => O.im (thD q))
def menu : List (List Nat) := [[49], [120], [40], [44], [61], [60, 61], [105, 110], [55], [45]]
theorem menu_ok : ∀ t ∈ menu, Tok t := by
  have n1 : numT [49] := num_ok (n := 1) (by omega)
  have n7 : numT [55] := num_ok (n := 7) (by omega)
  have w1 : wordT [120] := ⟨by simp, by decide, by decide⟩
  have w2 : wordT [105, 110] := ⟨by simp, by decide, by decide⟩
  intro t ht
  simp only [menu, List.mem_cons, List.not_mem_nil, or_false] at ht
  rcases ht with rfl | rfl | rfl | rfl | rfl | rfl | rfl | rfl | rfl
  · exact .inl n1
  · exact .inr (.inl w1)
  · exact .inr (.inr (by decide))
  · exact .inr (.inr (by decide))
  · exact .inr (.inr (by decide))
  · exact .inr (.inr (by decide))
  · exact .inr (.inl w2)
  · exact .inl n7
  · exact .inr (.inr (by decide))
theorem op_menu {k : Int} {P : D → Prop} (h0 : 0 ≤ k) (h1 : k < 9) (p : ∀ t, Tok t → P (.str (S t))) : OP (elemD (.lst [.str (Str.ofString "1"), .str (Str.ofString "x"), .str (Str.ofString "("), .str (Str.ofString ","), .str (Str.ofString "="), .str (Str.ofString "<="), .str (Str.ofString "in"), .str (Str.ofString "7"), .str (Str.ofString "-")]) (.int k)) P := by
  obtain ⟨i, hi, rfl⟩ := lsD (n := 9) h0 h1
  have hl : menu.length = 9 := rfl
  refine ⟨.str (S (menu.getD i [])), ?_, p _ ?_⟩
  · rcases (by omega : i = 0 ∨ i = 1 ∨ i = 2 ∨ i = 3 ∨ i = 4 ∨ i = 5 ∨ i = 6 ∨ i = 7 ∨ i = 8) with rfl | rfl | rfl | rfl | rfl | rfl | rfl | rfl | rfl <;> rfl
  · rw [List.getD_eq_getElem?_getD, List.getElem?_eq_getElem (by omega)]
    exact menu_ok _ (List.getElem_mem _)
theorem all_app {T : List Tg} {q : Tg} (h : ∀ x ∈ T, thOk x) (k : thOk q) : ∀ x ∈ T ++ [q], thOk x := fun x hx => by
  rcases List.mem_append.mp hx with m | m
  · exact h x m
  · rw [List.mem_singleton.mp m]; exact k
theorem things_ok {ds : List Int} (h : nn ds) : FO f__law_things [dl ds] fun os' r => ∃ ds' T, os' = [dl ds'] ∧ nn ds' ∧ r = .new (thL T) ∧ (∀ q ∈ T, thOk q) ∧ T.length ≤ 209 := by
  refine w_fun ?_
  unfold d__law_things
  show SW _ [some (true, _), none, none, none] _
  trivial
  refine w_fo (draw_ok h (m := 4) (by omega) (by omega)) rfl rfl (.inl rfl) ?_
  rintro os' r ⟨ds, v, rfl, h, rfl, h0, h1⟩
  refine ⟨_, rfl, ?_⟩
  simp only [List.set_cons_succ, List.set_cons_zero, rvF]
  trivial
  refine br_dec (fun hv => ?_) (fun hv => ?_)
  · refine w_seqM (fun e => e = [some (true, dl ds), some (false, .im (.lst [.str (Str.ofString "1"), .str (Str.ofString "x"), .str (Str.ofString "("), .str (Str.ofString ","), .str (Str.ofString "="), .str (Str.ofString "<="), .str (Str.ofString "in"), .str (Str.ofString "7"), .str (Str.ofString "-")])), none, none]) ?_ ?_
    · trivial
      rfl
    rintro e rfl
    refine w_seqM (fun e => ∃ ds T, e = [some (true, dl ds), some (false, .im (.lst [.str (Str.ofString "1"), .str (Str.ofString "x"), .str (Str.ofString "("), .str (Str.ofString ","), .str (Str.ofString "="), .str (Str.ofString "<="), .str (Str.ofString "in"), .str (Str.ofString "7"), .str (Str.ofString "-")])), some (false, thL T), none] ∧ nn ds ∧ (∀ q ∈ T, thOk q) ∧ T.length ≤ 209 ∧ 190 ≤ T.length) ?_ ?_
    · refine w_set ?_
      refine w_compT (fun (i : Nat) => D.int (i : Int)) (fun i acc e => ∃ (ds : List Int) (T : List Tg), acc = T.map (fun q => O.im (thD q)) ∧ e = [some (true, dl ds), some (false, .im (.lst [.str (Str.ofString "1"), .str (Str.ofString "x"), .str (Str.ofString "("), .str (Str.ofString ","), .str (Str.ofString "="), .str (Str.ofString "<="), .str (Str.ofString "in"), .str (Str.ofString "7"), .str (Str.ofString "-")])), none, none] ∧ nn ds ∧ (∀ q ∈ T, thOk q) ∧ T.length = i) ?_
      trivial
      refine w_fo (draw_ok h (m := 20) (by omega) (by omega)) rfl rfl (.inl rfl) ?_
      rintro os' r ⟨ds, v, rfl, h, rfl, h0, h1⟩
      refine ⟨_, rfl, ?_⟩
      simp only [List.set_cons_succ, List.set_cons_zero, rvF]
      trivial
      refine ⟨⟨by omega, by omega⟩, ?_⟩
      refine ⟨List.range (190 + v).toNat, rangeD_map _, rfl, by rw [List.length_range]; exact Nat.le_trans (show _ ≤ 1000 by omega) (by decide), ⟨ds, [], rfl, rfl, h, fun t k => (by cases k), rfl⟩, ?_, ?_⟩
      · rintro i a acc e1 hi ⟨ds, T, rfl, rfl, h, hT, hl⟩
        refine ⟨_, rfl, ?_⟩
        trivial
        refine w_fo (draw_ok h (m := 9) (by omega) (by omega)) rfl rfl (.inl rfl) ?_
        rintro os' r ⟨ds, k, rfl, h, rfl, k0, k1⟩
        refine ⟨_, rfl, ?_⟩
        simp only [List.set_cons_succ, List.set_cons_zero, rvF]
        trivial
        refine op_menu k0 k1 fun t ht => ?_
        trivial
        exact ⟨ds, T ++ [(t, false)], by rw [List.map_append]; rfl, rfl, h, all_app hT (.inl ⟨rfl, ht⟩), by rw [List.length_append, hl]; rfl⟩
      · rintro acc e1 ⟨ds, T, rfl, rfl, h, hT, hl⟩
        rw [List.length_range] at hl
        refine setP_new rfl ?_
        exact ⟨ds, T, rfl, h, hT, by omega, by omega⟩
    clear h ds
    rintro e ⟨ds, T, rfl, h, hT, hl, hl2⟩
    trivial
    refine w_fo (draw_ok h (m := 3) (by omega) (by omega)) rfl rfl (.inl rfl) ?_
    rintro os' r ⟨ds, k, rfl, h, rfl, k0, k1⟩
    refine ⟨_, rfl, ?_⟩
    simp only [List.set_cons_succ, List.set_cons_zero, rvF]
    trivial
    refine br_dec (fun hk => ?_) (fun hk => ?_)
    · refine w_stI ?_
      trivial
      refine w_fo (bad_ok h) rfl rfl (.inl rfl) ?_
      rintro os' r ⟨ds, b, rfl, h, rfl, hb⟩
      refine ⟨_, rfl, ?_⟩
      simp only [List.set_cons_succ, List.set_cons_zero, rvF]
      trivial
      refine w_op (z := .im (.str (S (b.take 40)))) (by
        show (if (S b).length ≤ sizeLine then some (Rv.im (.str (L2.cutS (S b) none (some ((40 : Nat) : Int))))) else none) = _
        have e1 := cutS_eq (l := b) (a := 0) (b := 40) (by omega)
        rw [if_pos (by rw [S_len]; exact Nat.le_trans (show b.length ≤ 1000 by have := hb.2.2; omega) (by decide))]
        show some (Rv.im (.str (L2.cutS (S b) (some ((0 : Nat) : Int)) (some ((40 : Nat) : Int))))) = _
        rw [e1]
        rfl) ?_
      trivial
      refine ⟨⟨_, _, rfl⟩, ?_⟩
      trivial
      refine w_fo (draw_ok h (m := 30) (by omega) (by omega)) rfl rfl (.inl rfl) ?_
      rintro os' r ⟨ds, k, rfl, h, rfl, k0, k1⟩
      refine ⟨_, rfl, ?_⟩
      simp only [List.set_cons_succ, List.set_cons_zero, rvF]
      trivial
      rw [flats_map (g := thD), List.length_map]
      have f := fm (180 + k) (b := (T.length : Int)) (by omega)
      refine op_mod (by omega) ?_
      trivial
      have hlt : ((180 + k).fmod (T.length : Int)).toNat < T.length := by omega
      refine ⟨false, _, ((180 + k).fmod (T.length : Int)).toNat, thD (T[((180 + k).fmod (T.length : Int)).toNat]), _, rfl, rfl, ?_, ?_, ?_⟩
      · unfold L2.ixN
        rw [List.length_map, if_pos f.1, if_pos f.2]
      · rw [List.getElem?_map, List.getElem?_eq_getElem hlt]
        rfl
      · trivial
        refine ⟨_, rfl, ds, T.set ((180 + k).fmod (T.length : Int)).toNat (b.take 40, true), rfl, h, ?_, fun q hq => ?_, by rw [List.length_set]; exact hl⟩
        · unfold thL
          rw [List.map_set]
          rfl
        · rcases List.mem_or_eq_of_mem_set hq with m | m
          · exact hT q m
          · rw [m]; exact .inr ⟨rfl, hb.2.1⟩
    · trivial
      exact ⟨_, rfl, ds, T, rfl, h, rfl, hT, hl⟩
  refine w_next ?_
  refine w_seqM (fun e => ∃ ds T, e = [some (true, dl ds), none, some (false, thL T), none] ∧ nn ds ∧ (∀ q ∈ T, thOk q) ∧ T.length ≤ 12) ?_ ?_
  · refine w_set ?_
    refine w_compT (fun (i : Nat) => D.int (i : Int)) (fun i acc e => ∃ (ds : List Int) (T : List Tg), acc = T.map (fun q => O.im (thD q)) ∧ e = [some (true, dl ds), none, none, none] ∧ nn ds ∧ (∀ q ∈ T, thOk q) ∧ T.length = i) ?_
    trivial
    refine w_fo (draw_ok h (m := 13) (by omega) (by omega)) rfl rfl (.inl rfl) ?_
    rintro os' r ⟨ds, v, rfl, h, rfl, h0, h1⟩
    refine ⟨_, rfl, ?_⟩
    simp only [List.set_cons_succ, List.set_cons_zero, rvF]
    trivial
    refine ⟨⟨by omega, by omega⟩, ?_⟩
    refine ⟨List.range v.toNat, rangeD_map _, rfl, by rw [List.length_range]; exact Nat.le_trans (show _ ≤ 1000 by omega) (by decide), ⟨ds, [], rfl, rfl, h, fun t k => (by cases k), rfl⟩, ?_, ?_⟩
    · rintro i a acc e1 hi ⟨ds, T, rfl, rfl, h, hT, hl⟩
      refine ⟨_, rfl, ?_⟩
      trivial
      refine w_fo (token2_ok h) rfl rfl (.inl rfl) ?_
      rintro os' r ⟨ds, t, rfl, h, rfl, ht⟩
      refine ⟨_, rfl, ?_⟩
      simp only [List.set_cons_succ, List.set_cons_zero, rvF]
      trivial
      exact ⟨ds, T ++ [(t, false)], by rw [List.map_append]; rfl, rfl, h, all_app hT (.inl ⟨rfl, ht⟩), by rw [List.length_append, hl]; rfl⟩
    · rintro acc e1 ⟨ds, T, rfl, rfl, h, hT, hl⟩
      rw [List.length_range] at hl
      refine setP_new rfl ?_
      exact ⟨ds, T, rfl, h, hT, by omega⟩
  clear h ds
  rintro e ⟨ds, T, rfl, h, hT, hl⟩
  trivial
  refine w_fo (draw_ok h (m := 2) (by omega) (by omega)) rfl rfl (.inl rfl) ?_
  rintro os' r ⟨ds, v, rfl, h, rfl, h0, h1⟩
  refine ⟨_, rfl, ?_⟩
  simp only [List.set_cons_succ, List.set_cons_zero, rvF]
  trivial
  refine ⟨⟨by omega, by omega⟩, ?_⟩
  refine sw_range (fun i e => ∃ ds T s3, e = [some (true, dl ds), none, some (false, thL T), fo s3] ∧ nn ds ∧ (∀ q ∈ T, thOk q) ∧ T.length ≤ 12 + i) ⟨ds, T, none, rfl, h, hT, by omega⟩ ?_ ?_
  · rintro i e hi ⟨ds, T, s3, rfl, h, hT, hl⟩
    refine ⟨[some (true, dl ds), none, some (false, thL T), some (false, .im (.int i))], by cases s3 <;> rfl, ?_⟩
    refine w_ins ⟨_, _, rfl⟩ ?_
    trivial
    refine w_fo (draw_ok h (m := 1000) (by omega) (by omega)) rfl rfl (.inl rfl) ?_
    rintro os' r ⟨ds, k, rfl, h, rfl, k0, k1⟩
    refine ⟨_, rfl, ?_⟩
    simp only [List.set_cons_succ, List.set_cons_zero, rvF]
    trivial
    rw [flats_map (g := thD), List.length_map]
    have f := fm k (b := (T.length : Int) + 1) (by omega)
    refine w_fo (bad_ok h) rfl rfl (.inl rfl) ?_
    rintro os' r ⟨ds, b, rfl, h, rfl, hb⟩
    refine ⟨_, rfl, ?_⟩
    simp only [List.set_cons_succ, List.set_cons_zero, rvF]
    trivial
    refine ⟨false, _, k.fmod ((T.length : Int) + 1), thD (b, true), rfl, rfl, ⟨?_, f.1, by omega⟩, ?_⟩
    · rw [List.length_map]
      exact Nat.lt_of_lt_of_le (show _ < 1000 by omega) (by decide)
    · refine ⟨ds, T.take (k.fmod ((T.length : Int) + 1)).toNat ++ [(b, true)] ++ T.drop (k.fmod ((T.length : Int) + 1)).toNat, some (.im (.int i)), ?_, h, fun q hq => ?_, ?_⟩
      · unfold thL
        rw [List.map_append, List.map_append, List.map_take, List.map_drop]
        rfl
      · rcases List.mem_append.mp hq with m | m
        · rcases List.mem_append.mp m with m | m
          · exact hT q (List.mem_of_mem_take m)
          · rw [List.mem_singleton.mp m]; exact .inr ⟨rfl, hb.1⟩
        · exact hT q (List.mem_of_mem_drop m)
      · rw [List.length_append, List.length_append, List.length_take, List.length_drop, List.length_singleton]
        omega
  · rintro e ⟨ds, T, s3, rfl, h, hT, hl⟩
    trivial
    exact ⟨_, rfl, ds, T, rfl, h, rfl, hT, by omega⟩
end K08

namespace K08
open PySem DL TOK
local macro_rules
  | `(tactic| trivial) => `(tactic| repeat' with_reducible first
    | refine DL.w_seq ?_ | refine DL.w_next ?_ | refine DL.w_if ?_ | refine DL.w_match ?_ | refine DL.pickP_of (by with_unfolding_all decide) ?_ | refine DL.sp_t ?_ | refine DL.sp_f (by with_unfolding_all decide) ?_ | refine DL.sp_n ?_ | refine DL.w_rt ?_ | refine DL.w_set ?_ | refine DL.w_drop ?_ | refine DL.w_app (by with_unfolding_all rfl) ?_ | (refine DL.appP_of (by with_unfolding_all rfl) (by first | assumption | with_unfolding_all exact Nat.le_of_ble_eq_true rfl | (simp only [List.length_append, List.length_map, List.length_cons, List.length_nil]; omega)) ?_; simp only [List.set_cons_succ, List.set_cons_zero, DL.O.flat]) | refine DL.w_forP ?_ | refine DL.w_sforv (by with_unfolding_all rfl) (by with_unfolding_all rfl) ?_ | refine DL.w_asg ?_ | refine DL.w_forV ?_ | refine DL.sqt_if ?_ | refine DL.sqt_rt ?_ | refine DL.sqt_next ?_
    | exact DL.us_next | exact DL.us_bk | exact DL.us_ct | exact DL.us_rtN | refine DL.us_seq ?_ ?_ | refine DL.us_if ?_ ?_ ?_ | refine DL.us_rt ?_ | refine DL.us_drop ?_ | refine DL.us_setI (by decide) ?_
    | exact DL.ud_pure | exact DL.ud_lift | exact DL.ud_xf | exact DL.ud_xi | exact DL.ud_var (by decide) | exact DL.ud_frz (by decide)
    | refine DL.ud_imR ?_ | refine DL.ud_vw ?_ | refine DL.ud_dtup ?_ | refine DL.ud_dlst ?_ | refine DL.ud_dcons ?_ ?_ | refine DL.ud_dconsV ?_ ?_ | refine DL.ud_dbin ?_ ?_ | refine DL.ud_dcmp ?_ ?_ | refine DL.ud_dtB ?_ | refine DL.ud_dtru ?_
    | refine DL.ud_dnot ?_ | refine DL.ud_dand ?_ ?_ | refine DL.ud_dor ?_ ?_ | refine DL.ud_dnotV ?_ | refine DL.ud_dandV ?_ ?_ | refine DL.ud_dorV ?_ ?_ | refine DL.ud_dif ?_ ?_ ?_ | (refine DL.ud_bind ?_ fun _ => ?_)
    | refine DL.w_frzI (by with_unfolding_all rfl) ?_ | refine DL.w_vwI (by with_unfolding_all rfl) ?_ | refine DL.w_owO (by with_unfolding_all rfl) ?_ | refine DL.w_varI (by with_unfolding_all rfl) ?_ | refine DL.w_varL (by with_unfolding_all rfl) ?_ | refine DL.w_varT (by with_unfolding_all rfl) ?_
    | refine DL.w_vwO (by with_unfolding_all rfl) ?_ | (refine DL.w_frzO (by with_unfolding_all rfl) ?_; simp only [List.set_cons_succ, List.set_cons_zero, DL.O.flat])
    | refine DL.w_pure ?_ | refine DL.w_dq ?_ | refine DL.w_imR ?_ | refine DL.w_imD ?_ | refine DL.w_fl ?_ | refine DL.w_bin ?_ | refine DL.w_cmp ?_ | refine DL.w_rev ?_ | refine DL.w_cat ?_ | refine DL.w_chain ?_ | refine DL.w_dtB ?_ | refine DL.w_dtru ?_
    | refine DL.w_dand ?_ | refine DL.w_dor ?_ | refine DL.w_dnot ?_ | refine DL.w_dandV ?_ | refine DL.w_dorV ?_ | refine DL.w_dnotV ?_ | refine DL.w_dif ?_
    | refine DL.w_dcons ?_ | refine DL.w_dconsV ?_ | refine DL.w_darcons ?_ | (refine DL.w_dtup ?_) | refine DL.w_dlst ?_ | refine DL.w_dixO ?_ | refine DL.w_sq ?_ | refine DL.w_dixX ?_ | refine DL.w_listX ?_ | refine DL.w_sorted ?_ | refine DL.w_un ?_ | refine DL.w_sqC ?_ | refine DL.w_forC ?_ | refine DL.op_fldI (by with_unfolding_all rfl) ?_ | refine DL.w_rg ?_ | refine DL.w_rvO ?_ | refine DL.w_dslice ?_ | refine DL.w_dtmc ?_ | refine DL.w_dtupN ?_ | refine DL.w_dlist ?_ | refine DL.w_dtuple ?_ | refine DL.w_tupV ?_ | refine DL.w_listV ?_
    | refine DL.w_bind ?_ | refine DL.w_lift ?_ | refine DL.w_frz ?_ | refine DL.w_vw ?_ | refine DL.w_ow ?_
    | refine DL.frzP_im ?_ | refine DL.frzP_new ?_ | refine DL.vwP_im ?_ | refine DL.vwP_new ?_ | refine DL.vwP_bor ?_ | refine DL.owP_im ?_ | refine DL.owP_new ?_ | refine DL.owP_bor ?_
    | (refine DL.setP_im (by with_unfolding_all first | rfl | exact DL.fo_free rfl) ?_; simp only [List.set_cons_succ, List.set_cons_zero, DL.O.flat]) | (refine DL.setP_new (by with_unfolding_all first | rfl | exact DL.fo_free rfl) ?_; simp only [List.set_cons_succ, List.set_cons_zero, DL.O.flat])
    | refine DL.argP_im ?_ | refine DL.argP_new ?_ | refine DL.argP_bor ?_ | refine DL.rvP_im ?_ | refine DL.rvP_new ?_ | refine DL.mvP_im ?_ | refine DL.mvP_new ?_ | (refine DL.mvP_bor (by with_unfolding_all rfl) ?_; simp only [List.set_cons_succ, List.set_cons_zero]) | refine DL.itP_im ?_ | refine DL.itP_new ?_ | refine DL.tuP_lst ?_ | refine DL.blP_of ?_
    | refine DL.op_rng (by with_unfolding_all decide) ?_ | refine DL.op_rngG ?_ | refine DL.op_isiII ?_ | refine DL.op_isiIB ?_ | refine DL.op_isiTT ?_ | refine DL.op_isiLL ?_
    | refine DL.op_eq ?_ | refine DL.op_ne ?_ | refine DL.br_t ?_ | refine DL.br_f ?_ | refine DL.br_not ?_ | refine DL.br_eqT (by with_unfolding_all rfl) ?_ | refine DL.br_eqF (by with_unfolding_all rfl) ?_
    | refine DL.sz (by with_unfolding_all exact Nat.le_of_ble_eq_true rfl) ?_
    | refine DL.outI_im (by with_unfolding_all exact Nat.le_of_ble_eq_true rfl) ?_ | refine DL.outI_new (by with_unfolding_all exact Nat.le_of_ble_eq_true rfl) ?_ | refine DL.outI_bor (by with_unfolding_all exact Nat.le_of_ble_eq_true rfl) (by with_unfolding_all rfl) ?_
    | refine DL.op_mod (by with_unfolding_all decide) ?_ | refine DL.op_div (by with_unfolding_all decide) ?_ | refine DL.op_mul (DL.mul_r (by with_unfolding_all decide)) ?_ | refine DL.op_mul (DL.mul_l (by with_unfolding_all decide)) ?_ | refine DL.op_pow (by with_unfolding_all decide) ?_
    | refine DL.w_op (by with_unfolding_all rfl) ?_ | rfl)

abbrev scr (ns : List Int) : Slot := some (false, .im (.scr (ns.map D.int)))
abbrev eT (ns ds : List Int) (tx bf : List Nat) (xk : Str) (xp : Int) (i : Nat) (gd : List Nat) (s7 s8 s9 : Slot) : DL.Env :=
  [scr ns, some (false, dl ds), some (false, .im (.str (S tx))), some (false, .im (.str (S bf))), some (false, .im (.tup [.str xk, .int xp])), some (false, .im (.int i)), some (false, .im (.str (S gd))), s7, s8, s9, none]
def lastT (l : List Sg) : List Nat := match l.getLast? with
  | some x => x.2
  | none => []
theorem lastT_snoc (l : List Sg) (x : Sg) : lastT (l ++ [x]) = x.2 := by unfold lastT; rw [List.getLast?_append]; rfl
/-- what is expected of the things l behind g spaces -/
inductive Ex (g : Nat) (l : List Sg) : Str → Int → Prop
  | good (h : ∀ x ∈ l, Tok x.2) (hl : l.length ≤ 200) : Ex g l "none" 0
  | limit {l1 l2 : List Sg} {k : Nat} {t : List Nat} {p : Int} (e : l = l1 ++ (k, t) :: l2) (h : ∀ x ∈ l1, Tok x.2) (hl : l1.length = 200) (hp : p = ((g + wid l1 + k : Nat) : Int)) : Ex g l "limit" p
  | token {l1 l2 : List Sg} {k : Nat} {t : List Nat} {p : Int} (e : l = l1 ++ (k, t) :: l2) (h : ∀ x ∈ l1, Tok x.2) (hl : l1.length < 200) (hb : BadT t) (hp : p = ((g + wid l1 + k : Nat) : Int)) : Ex g l "token" p
theorem Ex.more {g : Nat} {l : List Sg} {xk : Str} {xp : Int} (h : Ex g l xk xp) (x : Sg) (hn : xk ≠ "none") : Ex g (l ++ [x]) xk xp := by
  cases h with
  | good h hl => exact absurd rfl hn
  | @limit l1 l2 k t p e h hl hp => exact .limit (l2 := l2 ++ [x]) (by rw [e, List.append_assoc]; rfl) h hl hp
  | @token l1 l2 k t p e h hl hb hp => exact .token (l2 := l2 ++ [x]) (by rw [e, List.append_assoc]; rfl) h hl hb hp
theorem op_sp {k : Int} {P : D → Prop} (h0 : 0 ≤ k) (h1 : k ≤ 1000) (p : P (.str (S (List.replicate k.toNat 32)))) : OP (mulS (.str (Str.ofString " ")) (.int k)) P :=
  ⟨_, if_pos ⟨by decide +kernel, h0, by omega⟩, p⟩
theorem ones_adj : ∀ {l : List Sg}, (∀ x ∈ l, x.1 = 1 ∧ Tok x.2) → Adj l
  | [], _ => .intro
  | [x], h => (h x List.mem_cons_self).2
  | x :: y :: r, h => ⟨(h x List.mem_cons_self).2, .inl (by rw [(h y (List.mem_cons_of_mem _ List.mem_cons_self)).1]; omega), ones_adj fun z hz => h z (List.mem_cons_of_mem _ hz)⟩
theorem ones_wid : ∀ {l : List Sg}, (∀ x ∈ l, x.1 = 1 ∧ Tok x.2) → wid l ≤ 17 * l.length
  | [], _ => Nat.le_refl _
  | (a, t) :: r, h => by
    have h1 := (h (a, t) List.mem_cons_self)
    have h2 := h1.2.len
    have h3 : a = 1 := h1.1
    have ih := ones_wid (l := r) fun z hz => h z (List.mem_cons_of_mem _ hz)
    show a + t.length + wid r ≤ 17 * (r.length + 1)
    have h2 : t.length ≤ 16 := h2
    omega
theorem wid_snoc : ∀ (l : List Sg) (k : Nat) (t : List Nat), wid (l ++ [(k, t)]) = wid l + k + t.length
  | [], k, t => by show k + t.length + 0 = 0 + k + t.length; omega
  | (a, b) :: l, k, t => by
    show a + b.length + wid (l ++ [(k, t)]) = a + b.length + wid l + k + t.length
    rw [wid_snoc l]; omega
/-- what tokens makes of the whole -/
theorem told_ok {g : Nat} {l : List Sg} {xk : Str} {xp : Int} (hA : AdjB l) (hE : Ex g l xk xp) (hz : (List.replicate g 32 ++ txt l 0).length ≤ 20000) :
    FI f__law_outcome [.str (S (List.replicate g 32 ++ txt l 0))] (· = .im (.tup [.str xk, .int xp])) ∧ FI f__law_family [.str (S (List.replicate g 32 ++ txt l 0)), .str xk] (· = .im (.bl true)) := by
  have hox : ∀ (l : List Sg), AdjB l → ok (txt l 0) := fun l => by
    induction l with
    | nil => exact fun _ => ok_rep 0
    | cons x r ih =>
      intro h
      obtain ⟨a, t⟩ := x
      refine ok_app (ok_rep a) (ok_app (h.th (a, t) List.mem_cons_self).ok (ih ?_))
      cases r with
      | nil => exact .intro
      | cons y r => exact h.2.2
  have hx : ok (List.replicate g 32 ++ txt l 0) := ok_app (ok_rep g) (hox l hA)
  cases hE with
  | good h hl =>
    have hG := (hA.adj h).good (f := 0)
    exact ⟨outcome_ok rfl hz hG hl, family_ok rfl hz hG hl⟩
  | @limit l1 l2 k t p e h hl hp =>
    subst e
    obtain ⟨k1, k2, k3⟩ := hA.split h
    have fe := tokens_bad (x := List.replicate g 32 ++ txt (l1 ++ (k, t) :: l2) 0) (by rw [txt_split]) hz k1 hx k2 k3 (.inl hl)
    rw [if_pos hl, ← hp] at fe
    exact ⟨outcome_bad fe (.inl rfl), family_bad fe (.inl ⟨rfl, rfl⟩)⟩
  | @token l1 l2 k t p e h hl hb hp =>
    subst e
    obtain ⟨k1, k2, k3⟩ := hA.split h
    have fe := tokens_bad (x := List.replicate g 32 ++ txt (l1 ++ (k, t) :: l2) 0) (by rw [txt_split]) hz k1 hx k2 k3 (.inr ⟨hl, hb⟩)
    rw [if_neg (by omega), ← hp] at fe
    have z := outcome_bad fe (.inr rfl)
    rw [if_neg (by decide +kernel)] at z
    exact ⟨z, family_bad fe (.inr ⟨rfl, rfl⟩)⟩
theorem nice_told {xk : Str} {xp : Int} (h : PyData.strOk xk = true) : nice 1 (.tup [.str xk, .int xp]) = true := by
  simp [nice, nices, h]
theorem xk_ok {g : Nat} {l : List Sg} {xk : Str} {xp : Int} (h : Ex g l xk xp) : PyData.strOk xk = true := by
  cases h <;> decide +kernel
theorem law_ok (ns : List Int) (hns : ns.length ≤ 63) : FI f_law [.scr (ns.map D.int)] (· = .im (.bl true)) := by
  refine w_fi ?_
  unfold d_law
  show SW _ [some (false, .im _), none, none, none, none, none, none, none, none, none, none] _
  refine w_seqM (fun e => ∃ ds, e = [scr ns, some (false, dl ds), none, none, none, none, none, none, none, none, none] ∧ nn ds) ?_ ?_
  · trivial
    refine w_call (ds := [.scr _, .int 700]) (numbers_ok hns) rfl ?_
    rintro r ⟨ds, rfl, h⟩
    dsimp only [rvF]
    trivial
    exact ⟨ds, rfl, h⟩
  rintro e ⟨ds, rfl, h⟩
  refine w_seqM (fun e => ∃ ds g, e = [scr ns, some (false, dl ds), some (false, .im (.str (S (List.replicate g 32)))), none, none, none, none, none, none, none, none] ∧ nn ds ∧ g ≤ 2) ?_ ?_
  · trivial
    refine w_fo (draw_ok h (m := 3) (by omega) (by omega)) rfl rfl (.inl rfl) ?_
    rintro os' r ⟨ds, v, rfl, h, rfl, h0, h1⟩
    refine ⟨_, rfl, ?_⟩
    simp only [List.set_cons_succ, List.set_cons_zero, rvF]
    trivial
    refine op_sp h0 (by omega) ?_
    trivial
    exact ⟨ds, v.toNat, rfl, h, by omega⟩
  clear h ds
  rintro e ⟨ds, g, rfl, h, hg⟩
  refine w_seqM (fun e => e = [scr ns, some (false, dl ds), some (false, .im (.str (S (List.replicate g 32)))), some (false, .im (.str (S []))), none, none, none, none, none, none, none]) ?_ ?_
  · trivial
    rfl
  rintro e rfl
  refine w_seqM (fun e => e = [scr ns, some (false, dl ds), some (false, .im (.str (S (List.replicate g 32)))), some (false, .im (.str (S []))), some (false, .im (.tup [.str "none", .int 0])), none, none, none, none, none, none]) ?_ ?_
  · trivial
  rintro e rfl
  refine w_seqM (fun e => e = [scr ns, some (false, dl ds), some (false, .im (.str (S (List.replicate g 32)))), some (false, .im (.str (S []))), some (false, .im (.tup [.str "none", .int 0])), some (false, .im (.int (0 : Nat))), none, none, none, none, none]) ?_ ?_
  · trivial
    rfl
  rintro e rfl
  refine w_seqM (fun e => e = eT ns ds (List.replicate g 32 ++ txt [] 0) [] "none" 0 0 [] none none none) ?_ ?_
  · trivial
    rw [show List.replicate g 32 ++ txt [] 0 = List.replicate g 32 from List.append_nil _]
    rfl
  rintro e rfl
  refine w_seqM (fun e => ∃ ds l lg xk xp s7 s8 s9, e = eT ns ds (List.replicate g 32 ++ txt l 0) (lastT l) xk xp l.length (txt lg 0) (fo s7) (fo s8) (fo s9) ∧ AdjB l ∧ Ex g l xk xp ∧ (∀ x ∈ lg, x.1 = 1 ∧ Tok x.2) ∧ lg.length ≤ 200 ∧ l.length ≤ 209 ∧ wid l ≤ 61 * l.length) ?_ ?_
  · unfold eT
    trivial
    refine w_fo (things_ok h) rfl rfl (.inl rfl) ?_
    rintro os' r ⟨ds, T, rfl, h, rfl, hT, hTl⟩
    refine ⟨_, rfl, ?_⟩
    simp only [List.set_cons_succ, List.set_cons_zero, rvF]
    trivial
    rw [flats_map (g := thD)]
    refine sw_each T thD (fun i e => ∃ ds l lg xk xp s7 s8 s9, e = eT ns ds (List.replicate g 32 ++ txt l 0) (lastT l) xk xp l.length (txt lg 0) (fo s7) (fo s8) (fo s9) ∧ nn ds ∧ AdjB l ∧ Ex g l xk xp ∧ (∀ x ∈ lg, x.1 = 1 ∧ Tok x.2) ∧ lg.length ≤ l.length ∧ lg.length ≤ 200 ∧ l.length = i ∧ wid l ≤ 61 * i) ⟨ds, [], [], _, _, none, none, none, rfl, h, .intro, .good (fun x hx => by cases hx) (by show 0 ≤ 200; omega), fun x hx => (by cases hx), Nat.le_refl _, by show 0 ≤ 200; omega, rfl, by show 0 ≤ _; omega⟩ ?_ ?_
    · rintro i q e hi ⟨ds, l, lg, xk, xp, s7, s8, s9, rfl, h, hA, hE, hlg, hll, hlg2, hl, hw⟩
      obtain ⟨t, b⟩ := q
      have hq := hT _ (List.mem_of_getElem? hi)
      have hi2 : i < T.length := (List.getElem?_eq_some_iff.mp hi).1
      have th : Th t := by
        rcases hq with hq | hq
        · exact hq.2.th
        · exact hq.2.th
      have tl := th.len
      have txl : (List.replicate g 32 ++ txt l 0).length = g + wid l := by rw [List.length_append, List.length_replicate, wid_txt]
      refine ⟨eT ns ds (List.replicate g 32 ++ txt l 0) (lastT l) xk xp l.length (txt lg 0) (some (false, .im (.str (S t)))) (some (false, .im (.bl b))) (fo s9), by cases s7 <;> cases s8 <;> rfl, ?_⟩
      refine w_seqM (fun e => ∃ ds k, e = eT ns ds (List.replicate g 32 ++ txt l 0) (lastT l) xk xp l.length (txt lg 0) (some (false, .im (.str (S t)))) (some (false, .im (.bl b))) (some (false, .im (.str (S (List.replicate k 32))))) ∧ nn ds ∧ k ≤ 1) ?_ ?_
      · unfold eT
        trivial
        refine w_fo (draw_ok h (m := 2) (by omega) (by omega)) rfl rfl (.inl rfl) ?_
        rintro os' r ⟨ds, v, rfl, h, rfl, h0, h1⟩
        refine ⟨_, rfl, ?_⟩
        simp only [List.set_cons_succ, List.set_cons_zero, rvF]
        trivial
        refine op_sp h0 (by omega) ?_
        trivial
        exact ⟨ds, v.toNat, rfl, h, by omega⟩
      clear h ds
      rintro e ⟨ds, k, rfl, h, hk⟩
      have okl : ok (lastT l) ∧ (lastT l ≠ [] → Th (lastT l)) ∧ (lastT l = [] → l = []) := by
        rcases List.eq_nil_or_concat l with rfl | ⟨l', x, rfl⟩
        · exact ⟨fun c hc => (by cases hc), fun z => absurd rfl z, fun _ => rfl⟩
        · rw [List.concat_eq_append, lastT_snoc]
          rw [List.concat_eq_append] at hA
          have hx := hA.th x (List.mem_append_right _ (List.mem_singleton.mpr rfl))
          exact ⟨hx.ok, fun _ => hx, fun z => absurd z hx.ne⟩
      refine w_seqM (fun e => ∃ k, e = eT ns ds (List.replicate g 32 ++ txt l 0) (lastT l) xk xp l.length (txt lg 0) (some (false, .im (.str (S t)))) (some (false, .im (.bl b))) (some (false, .im (.str (S (List.replicate k 32))))) ∧ k ≤ 1 ∧ ∀ x, l.getLast? = some x → k > 0 ∨ glued x.2 t = false) ?_ ?_
      · unfold eT
        trivial
        refine w_op (z := !decide (lastT l = [])) (by
          have z : OP (eqD (.str (S (lastT l))) (.str (S []))) (· = decide (lastT l = [])) := op_eqS okl.1 (fun c hc => by cases hc) rfl
          obtain ⟨y, hy, rfl⟩ := z
          have hy' : eqD (.str (S (lastT l))) (.str (Str.ofString "")) = some (decide (lastT l = [])) := hy
          show (eqD (.str (S (lastT l))) (.str (Str.ofString ""))).map (fun b => !b) = _
          rw [hy']
          rfl) ?_
        trivial
        refine br_dec (fun h0 => ?_) (fun h0 => ?_)
        · trivial
          refine ⟨k, rfl, hk, fun x hx => ?_⟩
          rw [okl.2.2 h0] at hx
          cases hx
        · trivial
          refine w_callI (ds := [.str _, .str _]) (glued_ok (okl.2.1 h0) th) rfl ?_
          trivial
          refine br_of (fun h2 => ?_) (fun h2 => ?_)
          · trivial
            exact ⟨1, rfl, by omega, fun x hx => .inl (by omega)⟩
          · trivial
            refine ⟨k, rfl, hk, fun x hx => .inr ?_⟩
            unfold lastT at h2
            rw [hx] at h2
            exact h2
      clear hk k
      rintro e ⟨k, rfl, hk, hglue⟩
      refine w_seqM (fun e => e = eT ns ds (List.replicate g 32 ++ txt l 0 ++ List.replicate k 32) (lastT l) xk xp l.length (txt lg 0) (some (false, .im (.str (S t)))) (some (false, .im (.bl b))) (some (false, .im (.str (S (List.replicate k 32)))))) ?_ ?_
      · unfold eT
        trivial
        refine op_cat (by rw [txl, List.length_replicate]; omega) ?_
        trivial
      rintro e rfl
      have txl2 : (List.replicate g 32 ++ txt l 0 ++ List.replicate k 32).length = g + wid l + k := by rw [List.length_append, txl, List.length_replicate]
      -- the limit
      refine w_seqM (fun e => ∃ xk xp, e = eT ns ds (List.replicate g 32 ++ txt l 0 ++ List.replicate k 32) (lastT l) xk xp l.length (txt lg 0) (some (false, .im (.str (S t)))) (some (false, .im (.bl b))) (some (false, .im (.str (S (List.replicate k 32))))) ∧ ((xk = "none" ∧ xp = 0 ∧ (∀ x ∈ l, Tok x.2) ∧ l.length < 200) ∨ (xk ≠ "none" ∧ (xk = "limit" ∨ xk = "token") ∧ Ex g (l ++ [(k, t)]) xk xp))) ?_ ?_
      · unfold eT
        cases hE with
        | good hg1 hg2 =>
          trivial
          refine br_dec (fun h200 => ?_) (fun h200 => ?_)
          · trivial
            refine op_lenS (by omega) ?_
            trivial
            exact ⟨_, _, rfl, .inr ⟨by decide +kernel, .inl rfl, .limit (l1 := l) (l2 := []) rfl hg1 (by omega) (by rw [txl2])⟩⟩
          · trivial
            exact ⟨_, _, rfl, .inl ⟨rfl, rfl, hg1, by omega⟩⟩
        | @limit l1 l2 k' t' p e h1 h2 h3 =>
          trivial
          exact ⟨_, _, rfl, .inr ⟨by decide +kernel, .inl rfl, (Ex.limit e h1 h2 h3).more _ (by decide +kernel)⟩⟩
        | @token l1 l2 k' t' p e h1 h2 h3 h4 =>
          trivial
          exact ⟨_, _, rfl, .inr ⟨by decide +kernel, .inr rfl, (Ex.token e h1 h2 h3 h4).more _ (by decide +kernel)⟩⟩
      clear hE xk xp
      rintro e ⟨xk, xp, rfl, hE⟩
      -- the bad one
      refine w_seqM (fun e => ∃ xk xp, e = eT ns ds (List.replicate g 32 ++ txt l 0 ++ List.replicate k 32) (lastT l) xk xp l.length (txt lg 0) (some (false, .im (.str (S t)))) (some (false, .im (.bl b))) (some (false, .im (.str (S (List.replicate k 32))))) ∧ Ex g (l ++ [(k, t)]) xk xp) ?_ ?_
      · unfold eT
        rcases hE with ⟨rfl, rfl, hg1, hg2⟩ | ⟨hn, rfl | rfl, hE⟩
        · rcases hq with ⟨hb, ht⟩ | ⟨hb, ht⟩
          · have hb : b = false := hb
            subst hb
            trivial
            refine ⟨_, _, rfl, .good (fun x hx => ?_) (by rw [List.length_append]; show l.length + 1 ≤ 200; omega)⟩
            rcases List.mem_append.mp hx with m | m
            · exact hg1 x m
            · rw [List.mem_singleton.mp m]; exact ht
          · have hb : b = true := hb
            subst hb
            trivial
            refine op_lenS (by omega) ?_
            trivial
            exact ⟨_, _, rfl, .token (l1 := l) (l2 := []) rfl hg1 hg2 ht (by rw [txl2])⟩
        · trivial
          exact ⟨_, _, rfl, hE⟩
        · trivial
          exact ⟨_, _, rfl, hE⟩
      clear hE xk xp
      rintro e ⟨xk, xp, rfl, hE⟩
      refine w_seqM (fun e => e = eT ns ds (List.replicate g 32 ++ txt (l ++ [(k, t)]) 0) (lastT l) xk xp l.length (txt lg 0) (some (false, .im (.str (S t)))) (some (false, .im (.bl b))) (some (false, .im (.str (S (List.replicate k 32)))))) ?_ ?_
      · unfold eT
        trivial
        refine op_cat (by rw [txl2]; omega) ?_
        trivial
        rw [txt_snoc]
        simp only [List.append_assoc]
      rintro e rfl
      refine w_seqM (fun e => ∃ lg', e = eT ns ds (List.replicate g 32 ++ txt (l ++ [(k, t)]) 0) (lastT l) xk xp l.length (txt lg' 0) (some (false, .im (.str (S t)))) (some (false, .im (.bl b))) (some (false, .im (.str (S (List.replicate k 32))))) ∧ (∀ x ∈ lg', x.1 = 1 ∧ Tok x.2) ∧ lg'.length ≤ l.length + 1 ∧ lg'.length ≤ 200) ?_ ?_
      · unfold eT
        have ww := ones_wid hlg
        have wl : (txt lg 0).length = wid lg := (wid_txt lg).symm
        rcases hq with ⟨hb, ht⟩ | ⟨hb, ht⟩
        · have hb : b = false := hb
          subst hb
          trivial
          refine br_dec (fun h200 => ?_) (fun h200 => ?_)
          · trivial
            refine op_cat (m := [32]) (by rw [wl]; show wid lg + 1 ≤ _; omega) ?_
            trivial
            refine op_cat (by rw [List.length_append, wl]; show wid lg + 1 + _ ≤ _; omega) ?_
            trivial
            refine ⟨lg ++ [(1, t)], ?_, fun x hx => ?_, by rw [List.length_append]; show lg.length + 1 ≤ _; omega, by rw [List.length_append]; show lg.length + 1 ≤ _; omega⟩
            · rw [txt_snoc lg]
              simp only [List.append_assoc]
              rfl
            · rcases List.mem_append.mp hx with m | m
              · exact hlg x m
              · rw [List.mem_singleton.mp m]; exact ⟨rfl, ht⟩
          · trivial
            exact ⟨lg, rfl, hlg, by omega, hlg2⟩
        · have hb : b = true := hb
          subst hb
          trivial
          exact ⟨lg, rfl, hlg, by omega, hlg2⟩
      clear hlg hlg2 hll
      rintro e ⟨lg', rfl, hlg, hll, hlg2⟩
      unfold eT
      trivial
      refine ⟨ds, l ++ [(k, t)], lg', xk, xp, some (.im (.str (S t))), some (.im (.bl b)), some (.im (.str (S (List.replicate k 32)))), ?_, h, hA.snoc th hglue, hE, hlg, by rw [List.length_append]; exact hll, hlg2, by rw [List.length_append, hl]; rfl, ?_⟩
      · rw [lastT_snoc, List.length_append]
        rfl
      · rw [wid_snoc]
        omega
    · rintro e ⟨ds, l, lg, xk, xp, s7, s8, s9, rfl, h, hA, hE, hlg, hll, hlg2, hl, hw⟩
      exact ⟨ds, l, lg, xk, xp, s7, s8, s9, rfl, hA, hE, hlg, hlg2, by omega, by rw [hl]; exact hw⟩
  clear h ds
  rintro e ⟨ds, l, lg, xk, xp, s7, s8, s9, rfl, hA, hE, hlg, hlg2, hl, hw⟩
  have txl : (List.replicate g 32 ++ txt l 0).length = g + wid l := by rw [List.length_append, List.length_replicate, wid_txt]
  obtain ⟨o1, o2⟩ := told_ok hA hE (by rw [txl]; omega)
  have ww := ones_wid hlg
  have wl : (txt lg 0).length = wid lg := (wid_txt lg).symm
  have hG := (ones_adj hlg).good (f := 0)
  have o3 := outcome_ok (x := txt lg 0) (g := 0) rfl (by rw [wl]; omega) hG hlg2
  obtain ⟨b1, hb1, hb2⟩ := eqD_nice (nice_told (xp := xp) (xk_ok hE)) (nice_told (xp := xp) (xk_ok hE))
  have hb1 : eqD (.tup [.str xk, .int xp]) (.tup [.str xk, .int xp]) = some true := by rw [hb1, hb2.mpr rfl]
  obtain ⟨b3, hb3, hb4⟩ := eqD_nice (n := 0) (m := 0) (x := .str xk) (y := .str xk) (by rw [nice]; exact xk_ok hE) (by rw [nice]; exact xk_ok hE)
  have hb3 : eqD (.str xk) (.str xk) = some true := by rw [hb3, hb4.mpr rfl]
  have neS : neD (.str xk) (.str xk) = some false := by show (eqD _ _).map _ = _; rw [hb3]; rfl
  have neT : neD (.tup [.str xk, .int xp]) (.tup [.str xk, .int xp]) = some false := by show (eqD _ _).map _ = _; rw [hb1]; rfl
  unfold eT
  refine w_seqM (fun e => e = [scr ns, some (false, dl ds), some (false, .im (.str (S (List.replicate g 32 ++ txt l 0)))), some (false, .im (.str (S (lastT l)))), some (false, .im (.tup [.str xk, .int xp])), some (false, .im (.int l.length)), some (false, .im (.str (S (txt lg 0)))), fo s7, fo s8, fo s9, some (false, .im (.tup [.str xk, .int xp]))]) ?_ ?_
  · trivial
    refine w_callI (ds := [.str _]) o1 rfl ?_
    trivial
  rintro e rfl
  refine w_seqM (fun e => e = [scr ns, some (false, dl ds), some (false, .im (.str (S (List.replicate g 32 ++ txt l 0)))), some (false, .im (.str (S (lastT l)))), some (false, .im (.tup [.str xk, .int xp])), some (false, .im (.int l.length)), some (false, .im (.str (S (txt lg 0)))), fo s7, fo s8, fo s9, some (false, .im (.tup [.str xk, .int xp]))]) ?_ ?_
  · trivial
    refine w_op neS ?_
    trivial
    refine w_op neT ?_
    trivial
  rintro e rfl
  trivial
  refine w_callI (ds := [.str _, .str _]) o2 rfl ?_
  trivial
  refine w_callI (ds := [.str _]) o3 rfl ?_
  trivial
  rfl
theorem law_true (A : Unit) (_ : True) (ns : List Int) (hl : ns.length ≤ 63) : ∃ m os, fA A [.im (.scr (ns.map D.int))] = some (.ok m os (.im (.bl true))) := by
  obtain ⟨m, os, r, h1, h2, rfl⟩ := law_ok ns hl
  exact ⟨m, os, h1⟩
end K08

open PySem PySem.W PyProof.Rows

set_option maxRecDepth 100000 in
set_option maxHeartbeats 0 in
theorem PySem.Challenge.cw_keptcoin_k08_bad_tokens_holds : PySem.Challenge.rw_keptcoin_k08_bad_tokens.Holds := by
  w_on; o_law; k_head; (case hw => w_witness2)
  k_fill
  refine DL.walkD (l := PySem.Challenge.rw_keptcoin_k08_bad_tokens) (x := "_law_script") (f := K08.fA) (G := fun _ => True) (k := 7) rfl rfl ⟨rfl, by decide, by decide⟩ (fun w h Y => PySem.W.kIn_of Y) K08.law_true ?F
  case F =>
    intro w mg fa h KX G hmg
    refine' K08.all_mk KX G hmg ?h0 ?h1 ?h2 ?h3 ?h4 ?h5 ?h6 ?h7 ?h8 ?h9 ?h10 ?h11 ?h12 ?h13 ?h14 ?h15 ?h16 ?h17 ?h18 ?h19 ?h20 ?h21 ?h22 ?h23 ?h24 ?h25 ?h26 ?h27 ?h28 ?h29 ?h30 ?h31 ?h32 ?h33 ?h34 ?h35 ?h36 ?h37 ?h38 ?h39 ?h40 ?h41 ?h42 ?h43 ?h44 ?h45 ?h46 ?h47 ?h48 ?h49 ?h50 ?h51 ?h52 ?h53 ?h54 ?h55 ?h56 ?h57 ?h58 ?h59 ?h60 ?h61 ?h62 ?h63 ?h64 ?h65 ?h66 ?h67 ?h68 ?h69 ?h70 ?h71 ?h72 ?h73 ?h74 ?h75 ?h76 ?h77 ?h78 ?h79 ?h80 ?h81 ?h82 ?h83 ?h84 ?h85 ?h86 ?h87 ?h88 ?h89 ?h90 ?h91 ?h92 ?h93 ?h94 ?h95 ?h96 ?h97 ?h98 ?h99 ?h100 ?h101 ?h102 ?h103 ?h104 ?h105 ?h106 ?h107 ?h108 ?h109 ?h110 ?h111 ?h112 ?h113 ?h114 ?h115 ?h116 ?h117 ?h118 ?h119 ?h120 ?h121 ?h122 ?h123 ?h124 ?h125 ?h126 ?h127 ?h128 ?h129 ?h130 ?h131 ?h132 ?h133 ?h134 ?h135 ?h136 ?h137 ?h138 ?h139 ?h140 ?h141 ?h142 ?h143 ?h144 ?h145 ?h146 ?h147 ?h148 ?h149 ?h150
    (case h0 => k_is)
    (case h1 => k_is)
    (case h2 => k_is)
    (case h3 => k_is)
    (case h4 => k_is)
    (case h5 => k_is)
    (case h6 => k_is)
    (case h7 => k_is)
    (case h8 => k_is)
    (case h9 => k_is)
    (case h10 => k_is)
    (case h11 => k_is)
    (case h12 => k_is)
    (case h13 => k_is)
    (case h14 => k_is)
    (case h15 => k_is)
    (case h16 => k_is)
    (case h17 => k_is)
    (case h18 => k_is)
    (case h19 => k_is)
    (case h20 => k_is)
    (case h21 => k_is)
    (case h22 => k_is)
    (case h23 => k_is)
    (case h24 => k_is)
    (case h25 => k_is)
    (case h26 => k_is)
    (case h27 => k_is)
    (case h28 => k_is)
    (case h29 => k_is)
    (case h30 => k_is)
    (case h31 => k_is)
    (case h32 => k_is)
    (case h33 => k_is)
    (case h34 => k_is)
    (case h35 => k_is)
    (case h36 => k_is)
    (case h37 => k_is)
    (case h38 => k_is)
    (case h39 => k_is)
    (case h40 => k_is)
    (case h41 => k_is)
    (case h42 => k_is)
    (case h43 => k_is)
    (case h44 => k_is)
    (case h45 => first | k_is | kit_is)
    (case h46 => first | k_is | kit_is)
    (case h47 => first | k_is | kit_is)
    (case h48 => first | k_is | kit_is)
    (case h49 => first | k_is | kit_is)
    (case h50 => first | k_is | kit_is)
    (case h51 => first | k_is | kit_is)
    (case h52 => first | k_is | kit_is)
    (case h53 => first | k_is | kit_is)
    (case h54 => first | k_is | kit_is)
    (case h55 => first | k_is | kit_is)
    (case h56 => first | k_is | kit_is)
    (case h57 => first | k_is | kit_is)
    (case h58 => first | k_is | kit_is)
    (case h59 => first | k_is | kit_is)
    (case h60 => first | k_is | kit_is)
    (case h61 => k_is)
    (case h62 => k_is)
    (case h63 => k_is)
    (case h64 => k_is)
    (case h65 => k_is)
    (case h66 => k_is)
    (case h67 => k_is)
    (case h68 => k_is)
    (case h69 => k_is)
    (case h70 => k_is)
    (case h71 => k_is)
    (case h72 => k_is)
    (case h73 => k_is)
    (case h74 => k_is)
    (case h75 => k_is)
    (case h76 => k_is)
    (case h77 => k_is)
    (case h78 => k_is)
    (case h79 => k_is)
    (case h80 => k_is)
    (case h81 => k_is)
    (case h82 => k_is)
    (case h83 => k_is)
    (case h84 => k_is)
    (case h85 => k_is)
    (case h86 => k_is)
    (case h87 => k_is)
    (case h88 => k_is)
    (case h89 => k_is)
    (case h90 => k_is)
    (case h91 => k_is)
    (case h92 => k_is)
    (case h93 => k_is)
    (case h94 => k_is)
    (case h95 => k_is)
    (case h96 => k_is)
    (case h97 => k_is)
    (case h98 => k_is)
    (case h99 => k_is)
    (case h100 => k_is)
    (case h101 => k_is)
    (case h102 => k_is)
    (case h103 => k_is)
    (case h104 => k_is)
    (case h105 => k_is)
    (case h106 => k_is)
    (case h107 => k_is)
    (case h108 => k_is)
    (case h109 => k_is)
    (case h110 => k_is)
    (case h111 => k_is)
    (case h112 => k_is)
    (case h113 => k_is)
    (case h114 => k_is)
    (case h115 => k_is)
    (case h116 => k_is)
    (case h117 => k_is)
    (case h118 => k_is)
    (case h119 => k_is)
    (case h120 => k_is)
    (case h121 => k_is)
    (case h122 => k_is)
    (case h123 => k_is)
    (case h124 => k_is)
    (case h125 => k_is)
    (case h126 => k_is)
    (case h127 => k_is)
    (case h128 => k_is)
    (case h129 => k_is)
    (case h130 => k_is)
    (case h131 => k_is)
    (case h132 => k_is)
    (case h133 => k_is)
    (case h134 => k_is)
    (case h135 => k_is)
    (case h136 => k_is)
    (case h137 => k_is)
    (case h138 => k_is)
    (case h139 => k_is)
    (case h140 => k_is)
    (case h141 => k_is)
    (case h142 => k_is)
    (case h143 => k_is)
    (case h144 => k_is)
    (case h145 => k_is)
    (case h146 => k_is)
    (case h147 => k_is)
    (case h148 => k_is)
    (case h149 => k_is)
    (case h150 => k_is)

