import PyProof.Rows.All
import KE.RegKIsAll
import Wide.All
import OpenK.AllK
import Wide.FinOn
import HandS.ForMost
import HandS.ForExc
import HandS.Evl
import HandS.Wide
import HandS.Deep
import HandS.IsInst
import HandS.TupAny
import HandS.Text
import HandS.Style
import HandS.CallSlots
import HandS.Property
import HandS.Defaults
import HandS.MakeKwOnly
import PyProof.DictMoreH
import HandS.TupLen
import HandS.Conv
import HandS.DictTup
import HandS.More
import HandS.IterVal
import KE.KOwnIter
import KE.KOpsOwn
import KE.KSortTupAny
import HandS.SortInts
import PyProof.InstEq
import PyProof.Rows.Range3
import PyProof.Conv_bool
import HandS.ClsMeth
import HandS.OwnIter
import PyProof.CollectWalk
import PyProof.WalksMore
import PyProof.StrOps2
import HandS.ExcInit
import HandS.ExcField
import HandS.TryOnly
import KE.KExcIs
import HandS.Records
import KE.KDictCopyH
import HandS.Iter
import KE.KDictOf
import KE.KDictDisplayH
import PyProof.DictTable
import HandS.List
import KE.SortData
import KE.KSortTup
import HandS.WideBits
import HandS.EndBits
import KE.IntTextText
import PySem.Challenge.RW_keptcoin_k73_strict_reading
set_option Elab.async false
set_option linter.all false
section
open PySem PySem.W PyProof.Rows
set_option maxRecDepth 100000 in
set_option maxHeartbeats 0 in
open_top K73H.top for PySem.Challenge.rw_keptcoin_k73_strict_reading
end


set_option maxRecDepth 100000
set_option maxHeartbeats 4000000
/-! DLA: data without the heap: D (frozen), O (owned), what stands for what, the state's relation RE. -/
namespace DL
open PySem PySem.Spec PyProof.Rows L2 Evl

inductive D where
  | any | non | bl (b : Bool) | int (i : Int) | str (x : Str) | ty (n : String) | adr (a : Addr)
  | tup (xs : List D) | wtp (xs : List D) | lst (xs : List D) | scr (xs : List D) | dct (ks vs : List D) | ins (C : Addr) (ns : List Str) (vs : List D) | exc (c : Str) (a dd : Addr) (ns : List Str) (vs : List D)

inductive O where
  | im (d : D) | lst (xs : List O) | tup (xs : List O) | dct (ks : List D) (vs : List O) | ins (C : Addr) (ns : List Str) (vs : List O)

mutual
def O.flat : O → D
  | .im d => d
  | .lst xs => .lst (O.flats xs)
  | .tup xs => .tup (O.flats xs)
  | .dct ks vs => .dct ks (O.flats vs)
  | .ins C ns vs => .ins C ns (O.flats vs)
def O.flats : List O → List D
  | [] => []
  | o :: os => o.flat :: O.flats os
end
theorem flats_im : ∀ ds : List D, O.flats (ds.map O.im) = ds
  | [] => rfl
  | d :: ds => by
    show O.flat (O.im d) :: O.flats (ds.map O.im) = d :: ds
    rw [flats_im ds]
    rfl

def kD : Key → D
  | .inl i => .int i
  | .inr x => .str x
structure KB where
  K : PySem.W.Frag
  P : Program
  w : World
  mg : Str → Option Value
instance : Coe KB PySem.W.Frag := ⟨KB.K⟩
@[reducible] def _root_.L2.Cx.B (X : L2.Cx) : KB := ⟨X.K, X.prog, X.w, X.mg⟩
/-- a dict whose keys are tuples, the keys' own objects named: what is true of the dict's one object -/
def dXφ (K : KB) (a : Addr) (kvs : List (List Key × Addr × V)) (h : Heap) : Prop :=
  ∃ xs : List (List Key × Addr × Value), Paired (fun (p : List Key × Addr × V) (q : List Key × Addr × Value) => p.1 = q.1 ∧ p.2.1 = q.2.1 ∧ RelV p.2.2 q.2.2) kvs xs ∧
    ∃ o es ep, h.get? a = some o ∧ o.ExactDict ∧ o.data = .dict es ep ∧ es.toList = xs.map (entryOfKey (tupleKind (mixKind K.P K.w)))
def dX (K : KB) (a : Addr) (kvs : List (List Key × Addr × V)) : HO := .ext (dXφ K a kvs)
/-- the keys of such a dict -/
structure KeysOk (K : KB) (F : Hp) (a : Addr) (kvs : List (List Key × Addr × V)) : Prop where
  len : kvs.length ≤ sizeLine
  sys : (a == sysModules) = false
  nd : (kvs.map (·.1)).Nodup
  at_ : ∀ x ∈ kvs, SqT K F x.2.1 (x.1.map kV)
def DictAt (K : KB) (F : Hp) (a : Addr) (ho : HO) (ks : List D) (xs : List V) : Prop :=
  (∃ kvs : List (Key × V), ho = .dK kvs ∧ ((a == sysModules) = false ∧ (kvs.map (·.1)).Nodup) ∧ ks = kvs.map (fun p => kD p.1) ∧ xs = kvs.map (·.2)) ∨
  (∃ kvs : List (List Key × Addr × V), ho = dX K a kvs ∧ (kvs ≠ [] ∧ KeysOk K F a kvs) ∧ ks = kvs.map (fun p => D.tup (p.1.map kD)) ∧ xs = kvs.map (·.2.2))
theorem DictAt.mono {K : KB} {F F' : Hp} {a : Addr} {ho : HO} {ks : List D} {xs : List V} (e : Ex F F') (h : DictAt K F a ho ks xs) : DictAt K F' a ho ks xs := by
  rcases h with h | ⟨kvs, h1, h2, h3, h4⟩
  · exact .inl h
  · exact .inr ⟨kvs, h1, ⟨h2.1, h2.2.len, h2.2.sys, h2.2.nd, fun x hx => ex_t e (h2.2.at_ x hx)⟩, h3, h4⟩
/-- the values of such a dict are told by what stands there -/
def encV : V → Value
  | .non => .none
  | .bl b => .bool b
  | .int i => .int i 0
  | .str x => .str x 0
  | .byt b => .bytes b 0
  | .flt b => .float b 0
  | .ref a => .ref a
  | .ty n => .type n
theorem encV_rel : ∀ v : V, RelV v (encV v)
  | .non => rfl
  | .bl b => rfl
  | .int i => ⟨_, rfl⟩
  | .str x => ⟨_, rfl⟩
  | .byt b => ⟨_, rfl⟩
  | .flt b => ⟨_, rfl⟩
  | .ref a => rfl
  | .ty n => rfl
theorem dX_inj {K : KB} {a : Addr} {kvs kvs' : List (List Key × Addr × V)} (h : dX K a kvs = dX K a kvs') : kvs.map (·.2.2) = kvs'.map (·.2.2) := by
  have e : dXφ K a kvs = dXφ K a kvs' := HO.ext.inj h
  let xs : List (List Key × Addr × Value) := kvs.map fun p => (p.1, p.2.1, encV p.2.2)
  have hp : Paired (fun (p : List Key × Addr × V) (q : List Key × Addr × Value) => p.1 = q.1 ∧ p.2.1 = q.2.1 ∧ RelV p.2.2 q.2.2) kvs xs := by
    have key : ∀ l : List (List Key × Addr × V), Paired (fun (p : List Key × Addr × V) (q : List Key × Addr × Value) => p.1 = q.1 ∧ p.2.1 = q.2.1 ∧ RelV p.2.2 q.2.2) l (l.map fun p => (p.1, p.2.1, encV p.2.2)) := fun l => by
      induction l with
      | nil => exact .nil
      | cons p l ih => exact .cons ⟨rfl, rfl, encV_rel _⟩ ih
    exact key kvs
  let ob : Obj := { cls := .type "dict", data := .dict (xs.map (entryOfKey (tupleKind (mixKind K.P K.w)))).toArray 0 }
  let hp0 : Heap := ⟨Array.replicate (a + 1) ob, {}⟩
  have hg : hp0.get? a = some ob := by
    show (match (Array.replicate (a + 1) ob)[a]? with | some ⟨_, _, .freed, _⟩ => none | o => o) = some ob
    rw [show (Array.replicate (a + 1) ob)[a]? = some ob by simp]
  have h1 : dXφ K a kvs hp0 := ⟨xs, hp, ob, _, 0, hg, ⟨rfl, rfl, rfl⟩, rfl, by simp⟩
  rw [e] at h1
  obtain ⟨ys, hy, o, es, ep, g2, _, d2, e2⟩ := h1
  rw [hg] at g2
  cases g2
  cases d2
  have e3 : xs.map (entryOfKey (tupleKind (mixKind K.P K.w))) = ys.map (entryOfKey (tupleKind (mixKind K.P K.w))) := by simpa using e2
  have key : ∀ {l m : List (List Key × Addr × V)} {xs ys : List (List Key × Addr × Value)}, Paired (fun (p : List Key × Addr × V) (q : List Key × Addr × Value) => p.1 = q.1 ∧ p.2.1 = q.2.1 ∧ RelV p.2.2 q.2.2) l xs → Paired (fun (p : List Key × Addr × V) (q : List Key × Addr × Value) => p.1 = q.1 ∧ p.2.1 = q.2.1 ∧ RelV p.2.2 q.2.2) m ys →
      xs.map (entryOfKey (tupleKind (mixKind K.P K.w))) = ys.map (entryOfKey (tupleKind (mixKind K.P K.w))) → l.map (·.2.2) = m.map (·.2.2) := by
    intro l m xs ys h
    induction h generalizing m ys with
    | nil =>
      intro h2 e
      cases h2 with
      | nil => rfl
      | cons _ _ => simp at e
    | cons r t ih =>
      intro h2 e
      cases h2 with
      | nil => simp at e
      | cons r2 t2 =>
        rw [List.map_cons, List.map_cons] at e
        obtain ⟨e1, e2⟩ := List.cons.inj e
        rw [List.map_cons, List.map_cons, ih t2 e2]
        have e4 := congrArg DictEntry.val e1
        rw [RelV.inj r.2.2 (by
          have e5 : _ = _ := e4
          unfold entryOfKey at e5
          dsimp only at e5
          rw [e5]
          exact r2.2.2)]
  exact key hp hy e3

theorem rd_mono {F F' : Hp} (e : Ex F F') {a : Addr} {u : HO} (h : Rd F a u) : Rd F' a u := by
  rcases h with h | ⟨o, h⟩
  · exact .inl (e a _ h)
  · exact .inr ⟨o, e a _ h⟩
mutual
def Rep (K : KB) (F : Hp) : D → V → Prop
  | .any, _ => True
  | .non, v => v = .non
  | .bl b, v => v = .bl b
  | .int i, v => v = .int i
  | .str x, v => v = .str x
  | .ty n, v => v = .ty n
  | .adr a, v => v = .ref a
  | .tup ds, v => ∃ a xs, v = .ref a ∧ SqT K F a xs ∧ Reps K F ds xs
  | .wtp ds, v => ∃ a xs, v = .ref a ∧ SqT K F a xs ∧ Reps K F ds xs
  | .lst ds, v => ∃ a xs, v = .ref a ∧ F a = some (.lst xs) ∧ Reps K F ds xs
  | .scr ds, v => ∃ a xs, v = .ref a ∧ SqL K F a xs ∧ Reps K F ds xs
  | .dct ks ds, v => ∃ a ho xs, v = .ref a ∧ Rd F a ho ∧ DictAt K F a ho ks xs ∧ Reps K F ds xs
  | .ins C ns ds, v => ∃ a dx xs, v = .ref a ∧ F a = some (.ins C dx (ns.zip xs)) ∧ ns.length = xs.length ∧ Reps K F ds xs
  | .exc _ a dd ns ds, v => ∃ xs, v = .ref a ∧ F dd = some (.xd (ns.zip xs)) ∧ ns.length = xs.length ∧ Reps K F ds xs
def Reps (K : KB) (F : Hp) : List D → List V → Prop
  | [], xs => xs = []
  | d :: ds, xs => ∃ x r, xs = x :: r ∧ Rep K F d x ∧ Reps K F ds r
end
mutual
theorem Rep.mono {K : KB} {F F' : Hp} (e : Ex F F') : ∀ (d : D) (v : V), Rep K F d v → Rep K F' d v
  | .any, v, h => h
  | .non, v, h => h
  | .bl b, v, h => h
  | .int i, v, h => h
  | .str x, v, h => h
  | .ty n, v, h => h
  | .adr a, v, h => h
  | .tup ds, v, h => by
    obtain ⟨a, xs, e1, h1, h2⟩ := h
    exact ⟨a, xs, e1, ex_t e h1, Reps.mono e ds xs h2⟩
  | .wtp ds, v, h => by
    obtain ⟨a, xs, e1, h1, h2⟩ := h
    exact ⟨a, xs, e1, ex_t e h1, Reps.mono e ds xs h2⟩
  | .lst ds, v, h => by
    obtain ⟨a, xs, e1, h1, h2⟩ := h
    exact ⟨a, xs, e1, e a _ h1, Reps.mono e ds xs h2⟩
  | .scr ds, v, h => by
    obtain ⟨a, xs, e1, h1, h2⟩ := h
    exact ⟨a, xs, e1, ex_l e h1, Reps.mono e ds xs h2⟩
  | .dct ks ds, v, h => by
    obtain ⟨a, ho, xs, e1, h1, h2, h3⟩ := h
    exact ⟨a, ho, xs, e1, rd_mono e h1, h2.mono e, Reps.mono e ds xs h3⟩
  | .ins C ns ds, v, h => by
    obtain ⟨a, dx, xs, e1, h1, h2, h3⟩ := h
    exact ⟨a, dx, xs, e1, e a _ h1, h2, Reps.mono e ds xs h3⟩
  | .exc c a dd ns ds, v, h => by
    obtain ⟨xs, e1, h1, h2, h3⟩ := h
    exact ⟨xs, e1, e dd _ h1, h2, Reps.mono e ds xs h3⟩
theorem Reps.mono {K : KB} {F F' : Hp} (e : Ex F F') : ∀ (ds : List D) (xs : List V), Reps K F ds xs → Reps K F' ds xs
  | [], xs, h => h
  | d :: ds, xs, h => by
    obtain ⟨x, r, e1, h1, h2⟩ := h
    exact ⟨x, r, e1, Rep.mono e d x h1, Reps.mono e ds r h2⟩
end
theorem Reps.length {K : KB} {F : Hp} : ∀ {ds : List D} {xs : List V}, Reps K F ds xs → ds.length = xs.length
  | [], xs, h => by rw [show xs = [] from h]; rfl
  | d :: ds, xs, h => by
    obtain ⟨x, r, e1, h1, h2⟩ := h
    rw [e1, List.length_cons, List.length_cons, Reps.length h2]
theorem Reps.get {K : KB} {F : Hp} : ∀ {ds : List D} {xs : List V} (i : Nat) {d : D}, Reps K F ds xs → ds[i]? = some d → ∃ x, xs[i]? = some x ∧ Rep K F d x
  | [], xs, i, d, h, e => by simp at e
  | d0 :: ds, xs, 0, d, h, e => by
    obtain ⟨x, r, e1, h1, h2⟩ := h
    subst e1
    simp at e
    subst e
    exact ⟨x, rfl, h1⟩
  | d0 :: ds, xs, i + 1, d, h, e => by
    obtain ⟨x, r, e1, h1, h2⟩ := h
    subst e1
    have e' : ds[i]? = some d := by simpa using e
    obtain ⟨y, ey, hy⟩ := Reps.get i h2 e'
    exact ⟨y, by simpa using ey, hy⟩
theorem Reps.getV {K : KB} {F : Hp} : ∀ {ds : List D} {xs : List V} (i : Nat) {x : V}, Reps K F ds xs → xs[i]? = some x → ∃ d, ds[i]? = some d ∧ Rep K F d x
  | [], xs, i, x, h, e => by
    rw [show xs = [] from h] at e
    simp at e
  | d0 :: ds, xs, 0, x, h, e => by
    obtain ⟨x, r, e1, h1, h2⟩ := h
    subst e1
    simp at e
    subst e
    exact ⟨d0, rfl, h1⟩
  | d0 :: ds, xs, i + 1, x, h, e => by
    obtain ⟨x0, r, e1, h1, h2⟩ := h
    subst e1
    have e' : r[i]? = some x := by simpa using e
    obtain ⟨y, ey, hy⟩ := Reps.getV i h2 e'
    exact ⟨y, by simpa using ey, hy⟩
theorem Reps.append {K : KB} {F : Hp} : ∀ {ds es : List D} {xs ys : List V}, Reps K F ds xs → Reps K F es ys → Reps K F (ds ++ es) (xs ++ ys)
  | [], es, xs, ys, h, h' => by
    rw [show xs = [] from h]
    exact h'
  | d :: ds, es, xs, ys, h, h' => by
    obtain ⟨x, r, e1, h1, h2⟩ := h
    subst e1
    exact ⟨x, r ++ ys, rfl, h1, Reps.append h2 h'⟩

mutual
def Own (K : KB) (F H : Hp) : O → V → List Addr → Prop
  | .im d, v, fs => fs = [] ∧ Rep K F d v
  | .lst os, v, fs => ∃ a xs r, v = .ref a ∧ fs = a :: r ∧ H a = some (.lst xs) ∧ Owns K F H os xs r
  | .tup os, v, fs => ∃ a xs r, v = .ref a ∧ fs = a :: r ∧ H a = some (.tup xs) ∧ Owns K F H os xs r
  | .dct ks os, v, fs => ∃ a ho xs r, v = .ref a ∧ fs = a :: r ∧ H a = some ho ∧ DictAt K F a ho ks xs ∧ Owns K F H os xs r
  | .ins C ns os, v, fs => ∃ a dx xs r, v = .ref a ∧ fs = a :: r ∧ H a = some (.ins C dx (ns.zip xs)) ∧ ns.length = xs.length ∧ Owns K F H os xs r
def Owns (K : KB) (F H : Hp) : List O → List V → List Addr → Prop
  | [], xs, fs => xs = [] ∧ fs = []
  | o :: os, xs, fs => ∃ x r f1 f2, xs = x :: r ∧ fs = f1 ++ f2 ∧ Own K F H o x f1 ∧ Owns K F H os r f2
end
mutual
theorem Own.mono {K : KB} {F F' H H' : Hp} (e : Ex F F') : ∀ (o : O) (v : V) (fs : List Addr), (∀ p ∈ fs, ∀ u, H p = some u → H' p = some u) → Own K F H o v fs → Own K F' H' o v fs
  | .im d, v, fs, k, h => ⟨h.1, Rep.mono e d v h.2⟩
  | .lst os, v, fs, k, h => by
    obtain ⟨a, xs, r, e1, e2, h1, h2⟩ := h
    subst e2
    exact ⟨a, xs, r, e1, rfl, k a List.mem_cons_self _ h1, Owns.mono e os xs r (fun p hp => k p (List.mem_cons_of_mem _ hp)) h2⟩
  | .tup os, v, fs, k, h => by
    obtain ⟨a, xs, r, e1, e2, h1, h2⟩ := h
    subst e2
    exact ⟨a, xs, r, e1, rfl, k a List.mem_cons_self _ h1, Owns.mono e os xs r (fun p hp => k p (List.mem_cons_of_mem _ hp)) h2⟩
  | .dct ks os, v, fs, k, h => by
    obtain ⟨a, ho, xs, r, e1, e2, h1, h0, h2⟩ := h
    subst e2
    exact ⟨a, ho, xs, r, e1, rfl, k a List.mem_cons_self _ h1, h0.mono e, Owns.mono e os xs r (fun p hp => k p (List.mem_cons_of_mem _ hp)) h2⟩
  | .ins C ns os, v, fs, k, h => by
    obtain ⟨a, dx, xs, r, e1, e2, h1, h0, h2⟩ := h
    subst e2
    exact ⟨a, dx, xs, r, e1, rfl, k a List.mem_cons_self _ h1, h0, Owns.mono e os xs r (fun p hp => k p (List.mem_cons_of_mem _ hp)) h2⟩
theorem Owns.mono {K : KB} {F F' H H' : Hp} (e : Ex F F') : ∀ (os : List O) (xs : List V) (fs : List Addr), (∀ p ∈ fs, ∀ u, H p = some u → H' p = some u) → Owns K F H os xs fs → Owns K F' H' os xs fs
  | [], xs, fs, k, h => h
  | o :: os, xs, fs, k, h => by
    obtain ⟨x, r, f1, f2, e1, e2, h1, h2⟩ := h
    subst e2
    exact ⟨x, r, f1, f2, e1, rfl, Own.mono e o x f1 (fun p hp => k p (List.mem_append_left _ hp)) h1, Owns.mono e os r f2 (fun p hp => k p (List.mem_append_right _ hp)) h2⟩
end
mutual
/-- what is owned, frozen in a heap that has it -/
theorem Own.rep {K : KB} {F H F' : Hp} (e : Ex F F') : ∀ (o : O) (v : V) (fs : List Addr), (∀ p ∈ fs, ∀ u, H p = some u → F' p = some u) → Own K F H o v fs → Rep K F' o.flat v
  | .im d, v, fs, k, h => Rep.mono e d v h.2
  | .lst os, v, fs, k, h => by
    obtain ⟨a, xs, r, e1, e2, h1, h2⟩ := h
    subst e2
    exact ⟨a, xs, e1, k a List.mem_cons_self _ h1, Owns.rep e os xs r (fun p hp => k p (List.mem_cons_of_mem _ hp)) h2⟩
  | .tup os, v, fs, k, h => by
    obtain ⟨a, xs, r, e1, e2, h1, h2⟩ := h
    subst e2
    exact ⟨a, xs, e1, SqT.of (k a List.mem_cons_self _ h1), Owns.rep e os xs r (fun p hp => k p (List.mem_cons_of_mem _ hp)) h2⟩
  | .dct ks os, v, fs, k, h => by
    obtain ⟨a, ho, xs, r, e1, e2, h1, h0, h2⟩ := h
    subst e2
    exact ⟨a, ho, xs, e1, .inl (k a List.mem_cons_self _ h1), h0.mono e, Owns.rep e os xs r (fun p hp => k p (List.mem_cons_of_mem _ hp)) h2⟩
  | .ins C ns os, v, fs, k, h => by
    obtain ⟨a, dx, xs, r, e1, e2, h1, h0, h2⟩ := h
    subst e2
    exact ⟨a, dx, xs, e1, k a List.mem_cons_self _ h1, h0, Owns.rep e os xs r (fun p hp => k p (List.mem_cons_of_mem _ hp)) h2⟩
theorem Owns.rep {K : KB} {F H F' : Hp} (e : Ex F F') : ∀ (os : List O) (xs : List V) (fs : List Addr), (∀ p ∈ fs, ∀ u, H p = some u → F' p = some u) → Owns K F H os xs fs → Reps K F' (O.flats os) xs
  | [], xs, fs, k, h => h.1
  | o :: os, xs, fs, k, h => by
    obtain ⟨x, r, f1, f2, e1, e2, h1, h2⟩ := h
    subst e2
    exact ⟨x, r, e1, Own.rep e o x f1 (fun p hp => k p (List.mem_append_left _ hp)) h1, Owns.rep e os r f2 (fun p hp => k p (List.mem_append_right _ hp)) h2⟩
end
mutual
/-- what is owned stands in the heap -/
theorem Own.there {K : KB} {F H : Hp} : ∀ (o : O) (v : V) (fs : List Addr), Own K F H o v fs → ∀ p ∈ fs, H p ≠ none
  | .im d, v, fs, h, p, hp => by
    rw [h.1] at hp
    cases hp
  | .lst os, v, fs, h, p, hp => by
    obtain ⟨a, xs, r, e1, e2, h1, h2⟩ := h
    subst e2
    rcases List.mem_cons.mp hp with e | hp
    · rw [e, h1]; simp
    · exact Owns.there os xs r h2 p hp
  | .tup os, v, fs, h, p, hp => by
    obtain ⟨a, xs, r, e1, e2, h1, h2⟩ := h
    subst e2
    rcases List.mem_cons.mp hp with e | hp
    · rw [e, h1]; simp
    · exact Owns.there os xs r h2 p hp
  | .dct ks os, v, fs, h, p, hp => by
    obtain ⟨a, ho, xs, r, e1, e2, h1, h0, h2⟩ := h
    subst e2
    rcases List.mem_cons.mp hp with e | hp
    · rw [e, h1]; simp
    · exact Owns.there os xs r h2 p hp
  | .ins C ns os, v, fs, h, p, hp => by
    obtain ⟨a, dx, xs, r, e1, e2, h1, h0, h2⟩ := h
    subst e2
    rcases List.mem_cons.mp hp with e | hp
    · rw [e, h1]; simp
    · exact Owns.there os xs r h2 p hp
theorem Owns.there {K : KB} {F H : Hp} : ∀ (os : List O) (xs : List V) (fs : List Addr), Owns K F H os xs fs → ∀ p ∈ fs, H p ≠ none
  | [], xs, fs, h, p, hp => by
    rw [h.2] at hp
    cases hp
  | o :: os, xs, fs, h, p, hp => by
    obtain ⟨x, r, f1, f2, e1, e2, h1, h2⟩ := h
    subst e2
    rcases List.mem_append.mp hp with hp | hp
    · exact Own.there o x f1 h1 p hp
    · exact Owns.there os r f2 h2 p hp
end
theorem owns_im {K : KB} {F H : Hp} : ∀ {ds : List D} {xs : List V}, Reps K F ds xs → Owns K F H (ds.map O.im) xs []
  | [], xs, h => ⟨h, rfl⟩
  | d :: ds, xs, h => by
    obtain ⟨x, r, e1, h1, h2⟩ := h
    exact ⟨x, r, [], [], e1, rfl, ⟨rfl, h1⟩, owns_im h2⟩
theorem of_owns_im {K : KB} {F H : Hp} : ∀ {ds : List D} {xs : List V} {fs : List Addr}, Owns K F H (ds.map O.im) xs fs → Reps K F ds xs ∧ fs = []
  | [], xs, fs, h => h
  | d :: ds, xs, fs, h => by
    obtain ⟨x, r, f1, f2, e1, e2, h1, h2⟩ := h
    obtain ⟨h3, h4⟩ := of_owns_im h2
    refine ⟨⟨x, r, e1, h1.2, h3⟩, ?_⟩
    rw [e2, h1.1, h4]
    rfl
theorem Owns.append {K : KB} {F H : Hp} : ∀ {os ps : List O} {xs ys : List V} {f g : List Addr}, Owns K F H os xs f → Owns K F H ps ys g → Owns K F H (os ++ ps) (xs ++ ys) (f ++ g)
  | [], ps, xs, ys, f, g, h, h' => by
    rw [h.1, h.2]
    exact h'
  | o :: os, ps, xs, ys, f, g, h, h' => by
    obtain ⟨x, r, f1, f2, e1, e2, h1, h2⟩ := h
    subst e1
    subst e2
    exact ⟨x, r ++ ys, f1, f2 ++ g, rfl, by rw [List.append_assoc], h1, Owns.append h2 h'⟩
theorem Owns.length {K : KB} {F H : Hp} : ∀ {os : List O} {xs : List V} {f : List Addr}, Owns K F H os xs f → os.length = xs.length
  | [], xs, f, h => by rw [h.1]; rfl
  | o :: os, xs, f, h => by
    obtain ⟨x, r, f1, f2, e1, e2, h1, h2⟩ := h
    rw [e1, List.length_cons, List.length_cons, Owns.length h2]

/-! ### the state -/
abbrev Slot := Option (Bool × O)
abbrev Env := List Slot
def Held (K : KB) (F H : Hp) : List (V × O) → List Addr → Prop
  | [], fs => fs = []
  | q :: r, fs => ∃ f1 f2, fs = f1 ++ f2 ∧ Own K F H q.2 q.1 f1 ∧ Held K F H r f2
def Slots : Env → L2.St → L2.St → List (V × O) → Prop
  | [], σ, _, hs => σ = [] ∧ hs = []
  | none :: e, σ, σ0, hs => ∃ x r, σ = x :: r ∧ Slots e r σ0.tail hs
  | some q :: e, σ, σ0, hs => ∃ v r hr, σ = some v :: r ∧ (q.1 = true → σ0.head? = some (some v)) ∧ hs = (v, q.2) :: hr ∧ Slots e r σ0.tail hr
structure Ctx where
  G : Hp
  F0 : Hp
  σ0 : L2.St
structure RE (K : KB) (c : Ctx) (F H : Hp) (σ : L2.St) (e : Env) (ts : List (V × O)) : Prop where
  g : Ex c.G H
  f0 : Ex c.F0 F
  fh : Ex F H
  nw : ∀ p, F p ≠ none → c.F0 p ≠ none ∨ c.G p = none
  hd : ∃ hs fs, Slots e σ c.σ0 hs ∧ Held K F H (ts ++ hs) fs ∧ fs.Nodup ∧ ∀ p ∈ fs, F p = none ∧ c.G p = none

section
variable {K : KB} {c : Ctx} {F F' H H' : Hp} {σ : L2.St} {e : Env} {ts : List (V × O)}
theorem Held.mono (ef : Ex F F') : ∀ {hs : List (V × O)} {fs : List Addr}, (∀ p ∈ fs, ∀ u, H p = some u → H' p = some u) → Held K F H hs fs → Held K F' H' hs fs
  | [], fs, k, h => h
  | q :: r, fs, k, h => by
    obtain ⟨f1, f2, e1, h1, h2⟩ := h
    subst e1
    exact ⟨f1, f2, rfl, Own.mono ef _ _ f1 (fun p hp => k p (List.mem_append_left _ hp)) h1, Held.mono ef (fun p hp => k p (List.mem_append_right _ hp)) h2⟩
theorem Held.there : ∀ {hs : List (V × O)} {fs : List Addr}, Held K F H hs fs → ∀ p ∈ fs, H p ≠ none
  | [], fs, h, p, hp => by
    rw [show fs = [] from h] at hp
    cases hp
  | q :: r, fs, h, p, hp => by
    obtain ⟨f1, f2, e1, h1, h2⟩ := h
    subst e1
    rcases List.mem_append.mp hp with hp | hp
    · exact Own.there _ _ f1 h1 p hp
    · exact Held.there h2 p hp
theorem Held.split : ∀ {A B : List (V × O)} {fs : List Addr}, Held K F H (A ++ B) fs → ∃ f1 f2, fs = f1 ++ f2 ∧ Held K F H A f1 ∧ Held K F H B f2
  | [], B, fs, h => ⟨[], fs, rfl, rfl, h⟩
  | q :: A, B, fs, h => by
    obtain ⟨f1, f2, e1, h1, h2⟩ := h
    obtain ⟨g1, g2, e2, h3, h4⟩ := Held.split h2
    exact ⟨f1 ++ g1, g2, by rw [e1, e2, List.append_assoc], ⟨f1, g1, rfl, h1, h3⟩, h4⟩
theorem Held.join : ∀ {A B : List (V × O)} {f1 f2 : List Addr}, Held K F H A f1 → Held K F H B f2 → Held K F H (A ++ B) (f1 ++ f2)
  | [], B, f1, f2, h, h' => by
    rw [show f1 = [] from h]
    exact h'
  | q :: A, B, f1, f2, h, h' => by
    obtain ⟨g1, g2, e1, h1, h2⟩ := h
    subst e1
    exact ⟨g1, g2 ++ f2, by rw [List.append_assoc], h1, Held.join h2 h'⟩
theorem Slots.len : ∀ {e : Env} {σ σ0 : L2.St} {hs : List (V × O)}, Slots e σ σ0 hs → σ.length = e.length
  | [], σ, σ0, hs, h => by rw [h.1]; rfl
  | none :: e, σ, σ0, hs, h => by
    obtain ⟨x, r, e1, h1⟩ := h
    rw [e1, List.length_cons, List.length_cons, Slots.len h1]
  | some q :: e, σ, σ0, hs, h => by
    obtain ⟨v, r, hr, e1, _, _, h1⟩ := h
    rw [e1, List.length_cons, List.length_cons, Slots.len h1]
/-- a slot that holds: its value; another holding there, with the same value -/
theorem Slots.at : ∀ {e : Env} {σ σ0 : L2.St} {hs : List (V × O)} (i : Nat) {b : Bool} {o : O}, Slots e σ σ0 hs → e[i]? = some (some (b, o)) →
    ∃ v A B, hs = A ++ (v, o) :: B ∧ σ[i]? = some (some v) ∧ (b = true → σ0[i]? = some (some v)) ∧ ∀ o', Slots (e.set i (some (b, o'))) σ σ0 (A ++ (v, o') :: B)
  | [], σ, σ0, hs, i, b, o, h, he => by simp at he
  | none :: e, σ, σ0, hs, 0, b, o, h, he => by simp at he
  | some q :: e, σ, σ0, hs, 0, b, o, h, he => by
    obtain ⟨v, r, hr, e1, hb, e2, h1⟩ := h
    have eq : q = (b, o) := by simpa using he
    subst eq
    subst e1
    refine ⟨v, [], hr, by rw [e2]; rfl, rfl, fun z => ?_, fun o' => ⟨v, r, hr, rfl, hb, rfl, h1⟩⟩
    have z' := hb z
    cases σ0 with
    | nil => simp at z'
    | cons y ys => simpa using z'
  | none :: e, σ, σ0, hs, i + 1, b, o, h, he => by
    obtain ⟨x, r, e1, h1⟩ := h
    subst e1
    obtain ⟨v, A, B, k1, k2, k3, k4⟩ := Slots.at i h1 (by simpa using he)
    refine ⟨v, A, B, k1, by simpa using k2, fun z => ?_, fun o' => ⟨x, r, rfl, k4 o'⟩⟩
    have z' := k3 z
    cases σ0 with
    | nil => simp at z'
    | cons y ys => simpa using z'
  | some q :: e, σ, σ0, hs, i + 1, b, o, h, he => by
    obtain ⟨v0, r, hr, e1, hb, e2, h1⟩ := h
    subst e1
    obtain ⟨v, A, B, k1, k2, k3, k4⟩ := Slots.at i h1 (by simpa using he)
    refine ⟨v, (v0, q.2) :: A, B, by rw [e2, k1]; rfl, by simpa using k2, fun z => ?_, fun o' => ⟨v0, r, _, rfl, hb, rfl, k4 o'⟩⟩
    have z' := k3 z
    cases σ0 with
    | nil => simp at z'
    | cons y ys => simpa using z'
/-- may be stored to: there, and not pinned -/
def Env.free (e : Env) (i : Nat) : Bool := match e[i]? with
  | some none => true
  | some (some (b, _)) => !b
  | none => false
theorem Slots.put : ∀ {e : Env} {σ σ0 : L2.St} {hs : List (V × O)} (i : Nat), Slots e σ σ0 hs → e.free i = true →
    ∃ A M B, hs = A ++ (M ++ B) ∧ (∀ v o, Slots (e.set i (some (false, o))) (σ.set i (some v)) σ0 (A ++ (v, o) :: B)) ∧ ∀ x, Slots (e.set i none) (σ.set i x) σ0 (A ++ B)
  | [], σ, σ0, hs, i, h, he => by simp [Env.free] at he
  | none :: e, σ, σ0, hs, 0, h, he => by
    obtain ⟨x, r, e1, h1⟩ := h
    subst e1
    exact ⟨[], [], hs, rfl, fun v o => ⟨v, r, hs, rfl, (fun z => by cases z), rfl, h1⟩, fun x => ⟨x, r, rfl, h1⟩⟩
  | some q :: e, σ, σ0, hs, 0, h, he => by
    obtain ⟨v0, r, hr, e1, hb, e2, h1⟩ := h
    subst e1
    exact ⟨[], [(v0, q.2)], hr, by rw [e2]; rfl, fun v o => ⟨v, r, hr, rfl, (fun z => by cases z), rfl, h1⟩, fun x => ⟨x, r, rfl, h1⟩⟩
  | none :: e, σ, σ0, hs, i + 1, h, he => by
    obtain ⟨x, r, e1, h1⟩ := h
    subst e1
    obtain ⟨A, M, B, k1, k2, k3⟩ := Slots.put i h1 (by simpa [Env.free] using he)
    exact ⟨A, M, B, k1, fun v o => ⟨x, _, rfl, k2 v o⟩, fun y => ⟨x, _, rfl, k3 y⟩⟩
  | some q :: e, σ, σ0, hs, i + 1, h, he => by
    obtain ⟨v0, r, hr, e1, hb, e2, h1⟩ := h
    subst e1
    obtain ⟨A, M, B, k1, k2, k3⟩ := Slots.put i h1 (by simpa [Env.free] using he)
    exact ⟨(v0, q.2) :: A, M, B, by rw [e2, k1]; rfl, fun v o => ⟨v0, _, _, rfl, hb, rfl, k2 v o⟩, fun y => ⟨v0, _, _, rfl, hb, rfl, k3 y⟩⟩

/-- new frozen things are new in the heap -/
def Fresh (F H F' : Hp) : Prop := ∀ p, F' p ≠ none → F p ≠ none ∨ H p = none
theorem Fresh.refl : Fresh F H F := fun _ h => .inl h
theorem none_of_ex {A B : Hp} (e : Ex A B) {p : Addr} (h : B p = none) : A p = none := fresh_back e h
theorem RE.grow (R : RE K c F H σ e ts) (ef : Ex F F') (eh : Ex H H') (fh : Ex F' H') (fr : Fresh F H F') : RE K c F' H' σ e ts := by
  obtain ⟨hs, fs, h1, h2, h3, h4⟩ := R.hd
  refine ⟨R.g.trans eh, R.f0.trans ef, fh, fun p hp => ?_, hs, fs, h1, Held.mono ef (fun p _ u z => eh p u z) h2, h3, fun p hp => ⟨?_, (h4 p hp).2⟩⟩
  · rcases fr p hp with z | z
    · exact R.nw p z
    · exact .inr (none_of_ex R.g z)
  · cases q : F' p with
    | none => rfl
    | some u =>
      rcases fr p (by rw [q]; simp) with z | z
      · exact absurd (h4 p hp).1 z
      · exact absurd z (Held.there h2 p hp)
/-- the heap alone grows -/
theorem RE.ex (R : RE K c F H σ e ts) (eh : Ex H H') : RE K c F H' σ e ts := R.grow (Ex.refl _) eh (R.fh.trans eh) Fresh.refl
/-- a new object, frozen at once -/
theorem RE.newF {p : Addr} {o : HO} (R : RE K c F H σ e ts) (hp : H p = none) : RE K c (upd F p o) (upd H p o) σ e ts := by
  refine R.grow (Ex.new (none_of_ex R.fh hp)) (Ex.new hp) (fun a u z => ?_) (fun a z => ?_)
  · by_cases q : a = p
    · subst q
      rw [upd_same] at z ⊢
      exact z
    · rw [upd_ne q] at z ⊢
      exact R.fh a u z
  · by_cases q : a = p
    · subst q
      exact .inr hp
    · rw [upd_ne q] at z
      exact .inl z
/-- a temporary is dropped -/
theorem RE.drop {t : V × O} (R : RE K c F H σ e (t :: ts)) : RE K c F H σ e ts := by
  obtain ⟨hs, fs, h1, h2, h3, h4⟩ := R.hd
  obtain ⟨f1, f2, e1, _, h5⟩ := h2
  subst e1
  exact ⟨R.g, R.f0, R.fh, R.nw, hs, f2, h1, h5, (List.nodup_append.mp h3).2.1, fun p hp => h4 p (List.mem_append_right _ hp)⟩
/-- a new object, owned -/
theorem RE.newO {p : Addr} {u : HO} {o : O} (R : RE K c F H σ e ts) (hp : H p = none) (ho : Own K F (upd H p u) o (.ref p) [p]) : RE K c F (upd H p u) σ e ((.ref p, o) :: ts) := by
  have R' := R.ex (Ex.new (o := u) hp)
  obtain ⟨hs, fs, h1, h2, h3, h4⟩ := R'.hd
  obtain ⟨hs0, fs0, h10, h20, h30, h40⟩ := R.hd
  refine ⟨R'.g, R'.f0, R'.fh, R'.nw, hs0, p :: fs0, h10, ⟨[p], fs0, rfl, ho, Held.mono (Ex.refl _) (fun q _ w z => Ex.new hp q w z) h20⟩, List.nodup_cons.mpr ⟨fun z => Held.there h20 p z hp, h30⟩, fun q hq => ?_⟩
  rcases List.mem_cons.mp hq with z | z
  · rw [z]
    exact ⟨none_of_ex R.fh hp, none_of_ex R.g hp⟩
  · exact h40 q z
/-- what a holding is, read -/
theorem RE.slot {i : Nat} {b : Bool} {o : O} (R : RE K c F H σ e ts) (h : e[i]? = some (some (b, o))) : ∃ v fs, σ[i]? = some (some v) ∧ Own K F H o v fs := by
  obtain ⟨hs, fs, h1, h2, h3, h4⟩ := R.hd
  obtain ⟨v, A, B, k1, k2, _, _⟩ := h1.at i h
  subst k1
  rw [← List.append_assoc] at h2
  obtain ⟨f1, f2, _, _, h5⟩ := h2.split
  obtain ⟨g1, g2, _, h6, _⟩ := h5
  exact ⟨v, g1, k2, h6⟩
theorem RE.slotIm {i : Nat} {b : Bool} {d : D} (R : RE K c F H σ e ts) (h : e[i]? = some (some (b, .im d))) : ∃ v, σ[i]? = some (some v) ∧ Rep K F d v := by
  obtain ⟨v, fs, h1, h2⟩ := R.slot h
  exact ⟨v, h1, h2.2⟩
theorem RE.temp {v : V} {o : O} (R : RE K c F H σ e ((v, o) :: ts)) : ∃ fs, Own K F H o v fs := by
  obtain ⟨hs, fs, h1, h2, h3, h4⟩ := R.hd
  obtain ⟨f1, f2, e1, h5, _⟩ := h2
  exact ⟨f1, h5⟩
/-- what is held may be frozen where all of it stands in the heap -/
theorem Own.view {o : O} {v : V} {fs : List Addr} (h : Own K F H o v fs) (e : Ex F H) : Rep K H o.flat v := Own.rep e o v fs (fun _ _ _ z => z) h
/-- store a frozen value -/
theorem RE.setIm {i : Nat} {v : V} {d : D} (R : RE K c F H σ e ts) (hi : e.free i = true) (h : Rep K F d v) : RE K c F H (σ.set i (some v)) (e.set i (some (false, .im d))) ts := by
  obtain ⟨hs, fs, h1, h2, h3, h4⟩ := R.hd
  obtain ⟨A, M, B, k1, k2, _⟩ := h1.put i hi
  subst k1
  rw [← List.append_assoc] at h2
  obtain ⟨f1, f2, e1, h5, h6⟩ := h2.split
  obtain ⟨g1, g2, e2, h7, h8⟩ := h6.split
  subst e2
  subst e1
  refine ⟨R.g, R.f0, R.fh, R.nw, _, f1 ++ g2, k2 v (.im d), ?_, ?_, fun p hp => h4 p ?_⟩
  · rw [← List.append_assoc]
    exact Held.join h5 ⟨[], g2, rfl, ⟨rfl, h⟩, h8⟩
  · refine List.Nodup.sublist ?_ h3
    exact List.Sublist.append_left (List.sublist_append_right g1 g2) f1
  · rcases List.mem_append.mp hp with z | z
    · exact List.mem_append_left _ z
    · exact List.mem_append_right _ (List.mem_append_right _ z)
/-- store a temporary -/
theorem RE.setO {i : Nat} {v : V} {o : O} (R : RE K c F H σ e ((v, o) :: ts)) (hi : e.free i = true) : RE K c F H (σ.set i (some v)) (e.set i (some (false, o))) ts := by
  obtain ⟨hs, fs, h1, h2, h3, h4⟩ := R.hd
  obtain ⟨A, M, B, k1, k2, _⟩ := h1.put i hi
  subst k1
  obtain ⟨f0, fr, e0, h0, hr⟩ := h2
  rw [show ts.append (A ++ (M ++ B)) = ts ++ (A ++ (M ++ B)) from rfl, ← List.append_assoc] at hr
  obtain ⟨f1, f2, e1, h5, h6⟩ := hr.split
  obtain ⟨g1, g2, e2, h7, h8⟩ := h6.split
  subst e2
  subst e1
  subst e0
  refine ⟨R.g, R.f0, R.fh, R.nw, _, f1 ++ (f0 ++ g2), k2 v o, ?_, ?_, fun p hp => h4 p ?_⟩
  · rw [← List.append_assoc]
    exact Held.join h5 ⟨f0, g2, rfl, h0, h8⟩
  · have hp : (f1 ++ (f0 ++ g2)).Perm (f0 ++ (f1 ++ g2)) := by
      rw [← List.append_assoc, ← List.append_assoc]
      exact List.Perm.append_right g2 List.perm_append_comm
    refine hp.nodup_iff.mpr (List.Nodup.sublist ?_ h3)
    exact List.Sublist.append_left (List.Sublist.append_left (List.sublist_append_right g1 g2) f1) f0
  · rcases List.mem_append.mp hp with z | z
    · exact List.mem_append_right _ (List.mem_append_left _ z)
    · rcases List.mem_append.mp z with z | z
      · exact List.mem_append_left _ z
      · exact List.mem_append_right _ (List.mem_append_right _ (List.mem_append_right _ z))
end
end DL

/-! DLB: freezing, changing; denotations; the judgements. -/
namespace DL
open PySem PySem.Spec PyProof.Rows L2 Evl
section
variable {K : KB} {c : Ctx} {F F' H H' : Hp} {σ : L2.St} {e : Env} {ts : List (V × O)}
/-- F and what of H stands at fs -/
def addF (F H : Hp) (fs : List Addr) : Hp := fun p => if p ∈ fs then H p else F p
theorem addF_in {fs : List Addr} {p : Addr} (h : p ∈ fs) : addF F H fs p = H p := if_pos h
theorem addF_out {fs : List Addr} {p : Addr} (h : ¬ p ∈ fs) : addF F H fs p = F p := if_neg h
theorem ex_addF {fs : List Addr} (h : ∀ p ∈ fs, F p = none) : Ex F (addF F H fs) := fun p u z => by
  by_cases q : p ∈ fs
  · rw [h p q] at z
    cases z
  · rw [addF_out q]
    exact z
theorem addF_ex {fs : List Addr} (h : Ex F H) : Ex (addF F H fs) H := fun p u z => by
  by_cases q : p ∈ fs
  · rw [addF_in q] at z
    exact z
  · rw [addF_out q] at z
    exact h p u z
theorem nodup_mid {α : Type} {a b c : List α} (h : (a ++ (b ++ c)).Nodup) : (∀ x ∈ b, x ∉ a ∧ x ∉ c) ∧ (a ++ c).Nodup := by
  obtain ⟨h1, h2, h3⟩ := List.nodup_append.mp h
  obtain ⟨h4, h5, h6⟩ := List.nodup_append.mp h2
  refine ⟨fun x hx => ⟨fun z => h3 x z x (List.mem_append_left _ hx) rfl, fun z => h6 x hx x z rfl⟩, List.nodup_append.mpr ⟨h1, h5, fun x hx y hy => h3 x hx y (List.mem_append_right _ hy)⟩⟩
/-- a holding in the middle is changed -/
theorem Held.change {A B : List (V × O)} {v : V} {o : O} {fs : List Addr} (h : Held K F H (A ++ (v, o) :: B) fs) (nd : fs.Nodup) (fr : ∀ p ∈ fs, F p = none ∧ c.G p = none) :
    ∃ f1 f0 f2, fs = f1 ++ (f0 ++ f2) ∧ Own K F H o v f0 ∧ ∀ (F' H' : Hp) (o' : O) (f0' : List Addr), Ex F F' → (∀ q u, q ∉ f0 → H q = some u → H' q = some u) → Own K F' H' o' v f0' → f0'.Nodup →
      (∀ q ∈ f0', (q ∈ f0 ∨ H q = none) ∧ F' q = none ∧ c.G q = none) → (∀ p, F' p ≠ none → F p ≠ none ∨ H p = none ∨ p ∈ f0) →
      Held K F' H' (A ++ (v, o') :: B) (f1 ++ (f0' ++ f2)) ∧ (f1 ++ (f0' ++ f2)).Nodup ∧ ∀ p ∈ f1 ++ (f0' ++ f2), F' p = none ∧ c.G p = none := by
  obtain ⟨f1, f3, e1, h1, h3⟩ := h.split
  obtain ⟨f0, f2, e2, h0, h2⟩ := h3
  subst e2
  subst e1
  refine ⟨f1, f0, f2, rfl, h0, fun F' H' o' f0' ef keep ho nd' hq fw => ?_⟩
  obtain ⟨dj, nd2⟩ := nodup_mid nd
  have out : ∀ p, p ∈ f1 ∨ p ∈ f2 → p ∉ f0 := fun p hp z => by
    rcases hp with hp | hp
    · exact (dj p z).1 hp
    · exact (dj p z).2 hp
  have th : ∀ p, p ∈ f1 ∨ p ∈ f2 → H p ≠ none := fun p hp => by
    rcases hp with hp | hp
    · exact Held.there h1 p hp
    · exact Held.there h2 p hp
  have ff : ∀ p, p ∈ f1 ∨ p ∈ f2 → F' p = none ∧ c.G p = none := fun p hp => by
    have hm : p ∈ f1 ++ (f0 ++ f2) := by
      rcases hp with hp | hp
      · exact List.mem_append_left _ hp
      · exact List.mem_append_right _ (List.mem_append_right _ hp)
    refine ⟨?_, (fr p hm).2⟩
    cases q : F' p with
    | none => rfl
    | some u =>
      rcases fw p (by rw [q]; simp) with z | z | z
      · exact absurd (fr p hm).1 z
      · exact absurd z (th p hp)
      · exact absurd z (out p hp)
  refine ⟨Held.join (Held.mono ef (fun p hp u z => keep p u (out p (.inl hp)) z) h1) ⟨f0', f2, rfl, ho, Held.mono ef (fun p hp u z => keep p u (out p (.inr hp)) z) h2⟩, ?_, fun p hp => ?_⟩
  · obtain ⟨n1, n2, n3⟩ := List.nodup_append.mp nd2
    refine List.nodup_append.mpr ⟨n1, List.nodup_append.mpr ⟨nd', n2, fun x hx y hy z => ?_⟩, fun x hx y hy z => ?_⟩
    · subst z
      rcases (hq x hx).1 with w | w
      · exact (dj x w).2 hy
      · exact th x (.inr hy) w
    · subst z
      rcases List.mem_append.mp hy with hy | hy
      · rcases (hq x hy).1 with w | w
        · exact (dj x w).1 hx
        · exact th x (.inl hx) w
      · exact n3 x hx x hy rfl
  · rcases List.mem_append.mp hp with hp | hp
    · exact ff p (.inl hp)
    · rcases List.mem_append.mp hp with hp | hp
      · exact (hq p hp).2
      · exact ff p (.inr hp)
/-- the facts behind a change of what stands at f0 -/
structure Chg (c : Ctx) (F F' H H' : Hp) (f0 : List Addr) : Prop where
  ef : Ex F F'
  fh : Ex F' H'
  keep : ∀ q u, q ∉ f0 → H q = some u → H' q = some u
  nw : ∀ p, F' p ≠ none → F p ≠ none ∨ H p = none ∨ p ∈ f0
theorem RE.chg (R : RE K c F H σ e ts) {f0 : List Addr} (fr : ∀ p ∈ f0, c.G p = none) (C : Chg c F F' H H' f0) : Ex c.G H' ∧ Ex c.F0 F' ∧ Ex F' H' ∧ ∀ p, F' p ≠ none → c.F0 p ≠ none ∨ c.G p = none := by
  refine ⟨fun p u z => C.keep p u (fun hp => ?_) (R.g p u z), R.f0.trans C.ef, C.fh, fun p hp => ?_⟩
  · rw [fr p hp] at z
    cases z
  · rcases C.nw p hp with z | z | z
    · exact R.nw p z
    · exact .inr (none_of_ex R.g z)
    · exact .inr (fr p z)
theorem RE.mutSlot {i : Nat} {b : Bool} {o : O} (R : RE K c F H σ e ts) (h : e[i]? = some (some (b, o))) :
    ∃ v f0, σ[i]? = some (some v) ∧ Own K F H o v f0 ∧ f0.Nodup ∧ (∀ p ∈ f0, F p = none ∧ c.G p = none) ∧ ∀ (F' H' : Hp) (o' : O) (f0' : List Addr), Chg c F F' H H' f0 → Own K F' H' o' v f0' → f0'.Nodup →
      (∀ q ∈ f0', (q ∈ f0 ∨ H q = none) ∧ F' q = none ∧ c.G q = none) → RE K c F' H' σ (e.set i (some (b, o'))) ts := by
  obtain ⟨hs, fs, h1, h2, h3, h4⟩ := R.hd
  obtain ⟨v, A, B, k1, k2, k3, k4⟩ := h1.at i h
  subst k1
  rw [← List.append_assoc] at h2
  obtain ⟨f1, f0, f2, e1, ho, hc⟩ := Held.change (c := c) h2 h3 h4
  have g0 : ∀ p ∈ f0, F p = none ∧ c.G p = none := fun p hp => h4 p (by rw [e1]; exact List.mem_append_right _ (List.mem_append_left _ hp))
  have n0 : f0.Nodup := by
    rw [e1] at h3
    exact (List.nodup_append.mp (List.nodup_append.mp h3).2.1).1
  refine ⟨v, f0, k2, ho, n0, g0, fun F' H' o' f0' C hw nd' hq => ?_⟩
  obtain ⟨r1, r2, r3, r4⟩ := R.chg (fun p hp => (g0 p hp).2) C
  obtain ⟨q1, q2, q3⟩ := hc F' H' o' f0' C.ef C.keep hw nd' hq C.nw
  rw [List.append_assoc] at q1
  exact ⟨r1, r2, r3, r4, _, _, k4 o', q1, q2, q3⟩
theorem RE.mutTemp {v : V} {o : O} (R : RE K c F H σ e ((v, o) :: ts)) :
    ∃ f0, Own K F H o v f0 ∧ f0.Nodup ∧ (∀ p ∈ f0, F p = none ∧ c.G p = none) ∧ ∀ (F' H' : Hp) (o' : O) (f0' : List Addr), Chg c F F' H H' f0 → Own K F' H' o' v f0' → f0'.Nodup →
      (∀ q ∈ f0', (q ∈ f0 ∨ H q = none) ∧ F' q = none ∧ c.G q = none) → RE K c F' H' σ e ((v, o') :: ts) := by
  obtain ⟨hs, fs, h1, h2, h3, h4⟩ := R.hd
  obtain ⟨f1, f0, f2, e1, ho, hc⟩ := Held.change (c := c) (A := []) (B := ts ++ hs) h2 h3 h4
  have g0 : ∀ p ∈ f0, F p = none ∧ c.G p = none := fun p hp => h4 p (by rw [e1]; exact List.mem_append_right _ (List.mem_append_left _ hp))
  have n0 : f0.Nodup := by
    rw [e1] at h3
    exact (List.nodup_append.mp (List.nodup_append.mp h3).2.1).1
  refine ⟨f0, ho, n0, g0, fun F' H' o' f0' C hw nd' hq => ?_⟩
  obtain ⟨r1, r2, r3, r4⟩ := R.chg (fun p hp => (g0 p hp).2) C
  obtain ⟨q1, q2, q3⟩ := hc F' H' o' f0' C.ef C.keep hw nd' hq C.nw
  exact ⟨r1, r2, r3, r4, _, _, h1, q1, q2, q3⟩
/-- a temporary, frozen -/
theorem RE.freezeT {v : V} {o : O} (R : RE K c F H σ e ((v, o) :: ts)) : ∃ F', Ex F F' ∧ RE K c F' H σ e ts ∧ Rep K F' o.flat v := by
  obtain ⟨f0, ho, n0, g0, hc⟩ := R.mutTemp
  have hr : Rep K (addF F H f0) o.flat v := Own.rep (ex_addF fun p hp => (g0 p hp).1) o v f0 (fun p hp u z => by rw [addF_in hp]; exact z) ho
  refine ⟨addF F H f0, ex_addF fun p hp => (g0 p hp).1, ?_, hr⟩
  exact (hc (addF F H f0) H (.im o.flat) [] ⟨ex_addF fun p hp => (g0 p hp).1, addF_ex R.fh, fun _ _ _ z => z, fun p hp => by
    by_cases q : p ∈ f0
    · exact .inr (.inr q)
    · rw [addF_out q] at hp
      exact .inl hp⟩ ⟨rfl, hr⟩ List.nodup_nil (fun q hq => nomatch hq)).drop
/-- a slot, frozen -/
theorem RE.freezeS {i : Nat} {b : Bool} {o : O} (R : RE K c F H σ e ts) (h : e[i]? = some (some (b, o))) : ∃ F' v, Ex F F' ∧ σ[i]? = some (some v) ∧ RE K c F' H σ (e.set i (some (b, .im o.flat))) ts ∧ Rep K F' o.flat v := by
  obtain ⟨v, f0, hv, ho, n0, g0, hc⟩ := R.mutSlot h
  have hr : Rep K (addF F H f0) o.flat v := Own.rep (ex_addF fun p hp => (g0 p hp).1) o v f0 (fun p hp u z => by rw [addF_in hp]; exact z) ho
  refine ⟨addF F H f0, v, ex_addF fun p hp => (g0 p hp).1, hv, ?_, hr⟩
  exact hc (addF F H f0) H (.im o.flat) [] ⟨ex_addF fun p hp => (g0 p hp).1, addF_ex R.fh, fun _ _ _ z => z, fun p hp => by
    by_cases q : p ∈ f0
    · exact .inr (.inr q)
    · rw [addF_out q] at hp
      exact .inl hp⟩ ⟨rfl, hr⟩ List.nodup_nil (fun q hq => nomatch hq)
end

/-! ### denotations -/
/-- an exception: its class, its fields -/
structure Xn where
  cls : Str
  fs : List (Str × D)
inductive Res (α : Type) where
  | ok (m : Bool) (e : Env) (a : α)
  | err (m : Bool) (e : Env) (x : Xn)
abbrev Den (α : Type) := Env → Option (Res α)
inductive Rv where
  | im (d : D) | new (o : O) | bor (i : Nat) (o : O)
inductive SRes where
  | nx (m : Bool) (e : Env) | rt (m : Bool) (e : Env) (r : Rv) | bk (m : Bool) (e : Env) | ct (m : Bool) (e : Env) | er (m : Bool) (e : Env) (x : Xn)
abbrev SDen := Env → Option SRes
def dpure {α : Type} (a : α) : Den α := fun e => some (.ok false e a)
def dlift {α : Type} (a : Option α) : Den α := fun e => match a with
  | some a => some (.ok false e a)
  | none => none
def Res.more {α β : Type} (m : Bool) : Option (Res β) → Option (Res β)
  | some (.ok m' e b) => some (.ok (m || m') e b)
  | some (.err m' e x) => some (.err (m || m') e x)
  | none => none
def dbind {α β : Type} (d : Den α) (f : α → Den β) : Den β := fun e => match d e with
  | some (.ok m e a) => Res.more (β := β) (α := α) m (f a e)
  | some (.err m e x) => some (.err m e x)
  | none => none
def XRel (K : KB) (F H : Hp) (x : Xn) (cls : Value) (d : Option Addr) : Prop :=
  (∃ C, K.mg x.cls = some (.ref C) ∧ cls = .ref C) ∧ match d with
    | none => x.fs = []
    | some a => ∃ vs : List V, F a = some (.xd ((x.fs.map (·.1)).zip vs)) ∧ Reps K F (x.fs.map (·.2)) vs

/-! ### judgements -/
abbrev Rel (α β : Type) := KB → Ctx → Hp → Hp → L2.St → Env → List (V × O) → α → β → Prop
def relI : Rel D V := fun K c F H σ e ts d v => RE K c F H σ e ts ∧ Rep K F d v
def relV : Rel D V := fun K c F H σ e ts d v => RE K c F H σ e ts ∧ Rep K H d v
def relR : Rel Rv V := fun K c F H σ e ts r v => match r with
  | .im d => RE K c F H σ e ts ∧ Rep K F d v
  | .new o => RE K c F H σ e ((v, o) :: ts)
  | .bor i o => RE K c F H σ e ts ∧ σ[i]? = some (some v) ∧ ∃ b, e[i]? = some (some (b, o))
def relB : Rel Bool Bool := fun K c F H σ e ts d v => RE K c F H σ e ts ∧ d = v
def relA : Rel (List D) (List V) := fun K c F H σ e ts d v => RE K c F H σ e ts ∧ Reps K F d v
/-- from here on: what is known of how it ends -/
def At {α β : Type} (rel : Rel α β) (K : KB) (W : WX) (den : Den α) (c : Ctx) (F : Hp) (σ : L2.St) (e : Env) (ts : List (V × O)) (H : Hp) (Q : β → Hp → Prop) : Prop :=
  ∃ r, den e = some r ∧ match r with
    | .ok m e' a => ∀ F' H' v, Ex F F' → (m = false → Ex H H') → rel K c F' H' σ e' ts a v → Q v H'
    | .err m e' x => ∀ F' H' cls d, Ex F F' → (m = false → Ex H H') → RE K c F' H' σ e' ts → XRel K F' H' x cls d → W cls d σ H'
def rd {α β : Type} (rel : Rel α β) (K : KB) (W : WX) (den : Den α) : L2.St → Hp → (β → Hp → Prop) → Prop :=
  fun σ H Q => ∃ c F e ts, RE K c F H σ e ts ∧ At rel K W den c F σ e ts H Q
theorem At.bind {α β γ δ : Type} {rel : Rel α β} {rel2 : Rel γ δ} {K : KB} {W : WX} {den : Den α} {f : α → Den γ} {c : Ctx} {F H : Hp} {σ : L2.St} {e : Env} {ts : List (V × O)} {Q : δ → Hp → Prop} {Q' : β → Hp → Prop}
    (h : At rel2 K W (dbind den f) c F σ e ts H Q) (k : ∀ F1 H1 e1 a v, Ex F F1 → rel K c F1 H1 σ e1 ts a v → At rel2 K W (f a) c F1 σ e1 ts H1 Q → Q' v H1) : At rel K W den c F σ e ts H Q' := by
  obtain ⟨r, hr, post⟩ := h
  unfold dbind at hr
  cases hd : den e with
  | none =>
    rw [hd] at hr
    cases hr
  | some r1 =>
    rw [hd] at hr
    cases r1 with
    | err m e1 x =>
      cases hr
      exact ⟨_, hd, post⟩
    | ok m e1 a =>
      refine ⟨_, hd, fun F1 H1 v ef eh hrel => k F1 H1 e1 a v ef hrel ?_⟩
      dsimp only at hr
      cases hf : f a e1 with
      | none =>
        rw [hf] at hr
        cases hr
      | some r2 =>
        rw [hf] at hr
        refine ⟨r2, hf, ?_⟩
        cases r2 with
        | err m2 e2 x =>
          cases hr
          exact fun F' H' cls d ef' eh' R hx => post F' H' cls d (ef.trans ef') (fun z => by
            have z1 : m = false := by cases m <;> first | rfl | cases z
            have z2 : m2 = false := by cases m2 <;> first | rfl | (cases m <;> cases z)
            exact (eh z1).trans (eh' z2)) R hx
        | ok m2 e2 b =>
          cases hr
          exact fun F' H' w ef' eh' hrel' => post F' H' w (ef.trans ef') (fun z => by
            have z1 : m = false := by cases m <;> first | rfl | cases z
            have z2 : m2 = false := by cases m2 <;> first | rfl | (cases m <;> cases z)
            exact (eh z1).trans (eh' z2)) hrel'
theorem At.lift {α β : Type} {rel : Rel α β} {K : KB} {W : WX} {a : Option α} {c : Ctx} {F H : Hp} {σ : L2.St} {e : Env} {ts : List (V × O)} {Q : β → Hp → Prop}
    (h : At rel K W (dlift a) c F σ e ts H Q) : ∃ x, a = some x ∧ ∀ F' H' v, Ex F F' → Ex H H' → rel K c F' H' σ e ts x v → Q v H' := by
  obtain ⟨r, hr, post⟩ := h
  cases a with
  | none => cases hr
  | some x =>
    cases hr
    exact ⟨x, rfl, fun F' H' v ef eh hrel => post F' H' v ef (fun _ => eh) hrel⟩
theorem At.pure {α β : Type} {rel : Rel α β} {K : KB} {W : WX} {a : α} {c : Ctx} {F H : Hp} {σ : L2.St} {e : Env} {ts : List (V × O)} {Q : β → Hp → Prop}
    (h : At rel K W (dpure a) c F σ e ts H Q) : ∀ F' H' v, Ex F F' → Ex H H' → rel K c F' H' σ e ts a v → Q v H' := by
  obtain ⟨r, hr, post⟩ := h
  cases hr
  exact fun F' H' v ef eh hrel => post F' H' v ef (fun _ => eh) hrel

structure DE (X : Cx) (W : WX) (ex : Expr) (den : Den Rv) : Prop where
  run : PE X ex (rd relR X.B W den)
structure DI (X : Cx) (W : WX) (ex : Expr) (den : Den D) : Prop where
  run : PE X ex (rd relI X.B W den)
structure DV (X : Cx) (W : WX) (ex : Expr) (den : Den D) : Prop where
  run : PE X ex (rd relV X.B W den)
structure DT (X : Cx) (W : WX) (ex : Expr) (den : Den Bool) : Prop where
  run : PT X ex (rd relB X.B W den)
structure DA (X : Cx) (W : WX) (es : List Expr) (den : Den (List D)) : Prop where
  run : PA X es (rd relA X.B W den)

section
variable {X : Cx} {W : WX} {ex a b : Expr} {pos : Pos}
theorem pe_weak {t t' : TE} (h : PE X ex t) (k : ∀ σ H Q, t' σ H Q → t σ H Q) : PE X ex t' := ⟨fun pins s σ H Q I q => h.run pins s σ H Q I (k σ H Q q)⟩
theorem pt_weak {t t' : TT} (h : PT X ex t) (k : ∀ σ H Q, t' σ H Q → t σ H Q) : PT X ex t' := ⟨fun pins s σ H Q I q => h.run pins s σ H Q I (k σ H Q q)⟩
theorem pa_weak {es : List Expr} {t t' : TA} (h : PA X es t) (k : ∀ σ H Q, t' σ H Q → t σ H Q) : PA X es t' := ⟨fun pos pins s σ H Q I q => h.run pos pins s σ H Q I (k σ H Q q)⟩
theorem ps_weak {st : Stmt} {t t' : TS} (h : PS X st t) (k : ∀ D σ H, t' D σ H → t D σ H) : PS X st t' := ⟨fun pins s σ H D I q => h.run pins s σ H D I (k D σ H q)⟩
theorem pss_weak {st : List Stmt} {t t' : TS} (h : PSs X st t) (k : ∀ D σ H, t' D σ H → t D σ H) : PSs X st t' := ⟨fun pins s σ H D I q => h.run pins s σ H D I (k D σ H q)⟩
/-- frozen -/
def frz (d : Den Rv) : Den D := dbind d fun r e => match r with
  | .im d => some (.ok false e d)
  | .new o => some (.ok false e o.flat)
  | .bor i o => match e[i]? with
    | some (some (b, _)) => some (.ok false (e.set i (some (b, .im o.flat))) o.flat)
    | _ => none
/-- seen, not kept -/
def vw (d : Den Rv) : Den D := dbind d fun r => match r with
  | .im d => dpure d
  | .new o => dpure o.flat
  | .bor _ o => dpure o.flat
theorem DE.i {den : Den Rv} (h : DE X W ex den) : DI X W ex (frz den) := ⟨pe_weak h.run fun σ H Q q => by
  obtain ⟨c, F, e, ts, R, q⟩ := q
  refine ⟨c, F, e, ts, R, q.bind fun F1 H1 e1 a v ef hrel q2 => ?_⟩
  cases a with
  | im d => exact At.pure (a := d) q2 F1 H1 v (Ex.refl _) (Ex.refl _) hrel
  | new o =>
    obtain ⟨F3, e3, R3, h3⟩ := RE.freezeT hrel
    exact At.pure (a := o.flat) q2 F3 H1 v e3 (Ex.refl _) ⟨R3, h3⟩
  | bor i o =>
    obtain ⟨R2, hv, b, hb⟩ := hrel
    obtain ⟨F3, v3, e3, hv3, R3, h3⟩ := R2.freezeS hb
    rw [hv] at hv3
    cases hv3
    obtain ⟨r, hr3, post⟩ := q2
    dsimp only at hr3
    rw [hb] at hr3
    cases hr3
    exact post F3 H1 v e3 (fun _ => Ex.refl _) ⟨R3, h3⟩⟩
theorem DE.v {den : Den Rv} (h : DE X W ex den) : DV X W ex (vw den) := ⟨pe_weak h.run fun σ H Q q => by
  obtain ⟨c, F, e, ts, R, q⟩ := q
  refine ⟨c, F, e, ts, R, q.bind fun F1 H1 e1 a v ef hrel q2 => ?_⟩
  cases a with
  | im d => exact At.pure (a := d) q2 F1 H1 v (Ex.refl _) (Ex.refl _) ⟨hrel.1, Rep.mono hrel.1.fh _ _ hrel.2⟩
  | new o =>
    obtain ⟨fs, ho⟩ := RE.temp hrel
    exact At.pure (a := o.flat) q2 F1 H1 v (Ex.refl _) (Ex.refl _) ⟨RE.drop hrel, ho.view (RE.fh hrel)⟩
  | bor i o =>
    obtain ⟨R2, hv, b, hb⟩ := hrel
    obtain ⟨w, fs, hw, ho⟩ := R2.slot hb
    rw [hv] at hw
    cases hw
    exact At.pure (a := o.flat) q2 F1 H1 v (Ex.refl _) (Ex.refl _) ⟨R2, ho.view R2.fh⟩⟩
def imR (d : Den D) : Den Rv := dbind d fun d => dpure (.im d)
theorem DI.e {den : Den D} (h : DI X W ex den) : DE X W ex (imR den) := ⟨pe_weak h.run fun σ H Q q => by
  obtain ⟨c, F, e, ts, R, q⟩ := q
  refine ⟨c, F, e, ts, R, q.bind fun F1 H1 e1 a v ef hrel q2 => ?_⟩
  exact At.pure (a := Rv.im a) q2 F1 H1 v (Ex.refl _) (Ex.refl _) hrel⟩
theorem DI.v {den : Den D} (h : DI X W ex den) : DV X W ex den := ⟨pe_weak h.run fun σ H Q q => by
  obtain ⟨c, F, e, ts, R, r, hr, post⟩ := q
  refine ⟨c, F, e, ts, R, r, hr, ?_⟩
  cases r with
  | ok m e1 a => exact fun F' H' v ef eh hrel => post F' H' v ef eh ⟨hrel.1, Rep.mono hrel.1.fh _ _ hrel.2⟩
  | err m e1 x => exact post⟩

/-! ### names, constants -/
def dvar (i : Nat) : Den Rv := fun e => match e[i]? with
  | some (some (_, .im d)) => some (.ok false e (.im d))
  | some (some (_, o)) => some (.ok false e (.bor i o))
  | _ => none
theorem de_var {i : Nat} (h : PE X ex (tVar i)) : DE X W ex (dvar i) := ⟨pe_weak h fun σ H Q q => by
  obtain ⟨c, F, e, ts, R, r, hr, post⟩ := q
  unfold dvar at hr
  cases he : e[i]? with
  | none =>
    rw [he] at hr
    cases hr
  | some s =>
    rw [he] at hr
    cases s with
    | none => cases hr
    | some q =>
      obtain ⟨b, o⟩ := q
      obtain ⟨v, fs, hv, ho⟩ := R.slot he
      refine ⟨v, hv, ?_⟩
      cases o with
      | im d =>
        cases hr
        exact post F H v (Ex.refl _) (fun _ => Ex.refl _) ⟨R, ho.2⟩
      | lst os =>
        cases hr
        exact post F H v (Ex.refl _) (fun _ => Ex.refl _) ⟨R, hv, b, he⟩
      | tup os =>
        cases hr
        exact post F H v (Ex.refl _) (fun _ => Ex.refl _) ⟨R, hv, b, he⟩
      | dct ks os =>
        cases hr
        exact post F H v (Ex.refl _) (fun _ => Ex.refl _) ⟨R, hv, b, he⟩
      | ins C ns os =>
        cases hr
        exact post F H v (Ex.refl _) (fun _ => Ex.refl _) ⟨R, hv, b, he⟩⟩
/-- a constant -/
theorem di_c {v : V} {d : D} (h : PE X ex (tC v)) (hr : ∀ F, Rep X.B F d v) : DI X W ex (dpure d) := ⟨pe_weak h fun σ H Q q => by
  obtain ⟨c, F, e, ts, R, q⟩ := q
  exact At.pure q F H v (Ex.refl _) (Ex.refl _) ⟨R, hr F⟩⟩
theorem di_int {i : Int} {j : Nat} : DI X W (.Constant (.int i) j pos) (dpure (.int i)) := di_c pe_int fun _ => rfl
theorem di_bl {b : Bool} {j : Nat} : DI X W (.Constant (.bool b) j pos) (dpure (.bl b)) := di_c pe_bl fun _ => rfl
theorem di_non {j : Nat} : DI X W (.Constant .none j pos) (dpure .non) := di_c pe_non fun _ => rfl
theorem di_str {x : Str} {j : Nat} : DI X W (.Constant (.str x) j pos) (dpure (.str x)) := di_c pe_str fun _ => rfl
end
end DL

/-! DLC: operators, comparisons, tests, calls of built-ins, tuples and lists written, subscripts. -/
namespace DL
open PySem PySem.Spec PyProof.Rows L2 Evl

/-! ### data that may be compared -/
mutual
def D.py : D → Option PyData
  | .non => some .none
  | .bl b => some (.bool b)
  | .int i => some (.int i)
  | .str x => some (.str x)
  | .tup ds => (D.pys ds).map PyData.tuple
  | .wtp ds => (D.pys ds).map PyData.tuple
  | .lst ds => (D.pys ds).map PyData.list
  | .scr ds => (D.pys ds).map PyData.list
  | .any => none
  | .ty _ => none
  | .adr _ => none
  | .exc _ _ _ _ _ => none
  | .dct _ _ => none
  | .ins _ _ _ => none
def D.pys : List D → Option (List PyData)
  | [] => some []
  | d :: ds => match D.py d, D.pys ds with
    | some p, some ps => some (p :: ps)
    | _, _ => none
end
mutual
theorem Rep.dp {K : KB} {H : Hp} : ∀ (d : D) (v : V) (p : PyData), Rep K H d v → d.py = some p → Dp K H v p
  | .non, v, p, h, e => by cases e; rw [show v = V.non from h]; exact .non
  | .bl b, v, p, h, e => by cases e; rw [show v = V.bl b from h]; exact .bl b
  | .int i, v, p, h, e => by cases e; rw [show v = V.int i from h]; exact .int i
  | .str x, v, p, h, e => by cases e; rw [show v = V.str x from h]; exact .str x
  | .tup ds, v, p, h, e => by
    obtain ⟨a, xs, rfl, h1, h2⟩ := h
    unfold D.py at e
    obtain ⟨q, e1, rfl⟩ := Option.map_eq_some_iff.mp e
    exact .tup (h1) (Reps.dp ds xs q h2 e1)
  | .wtp ds, v, p, h, e => by
    obtain ⟨a, xs, rfl, h1, h2⟩ := h
    unfold D.py at e
    obtain ⟨q, e1, rfl⟩ := Option.map_eq_some_iff.mp e
    exact .tup h1 (Reps.dp ds xs q h2 e1)
  | .lst ds, v, p, h, e => by
    obtain ⟨a, xs, rfl, h1, h2⟩ := h
    unfold D.py at e
    obtain ⟨q, e1, rfl⟩ := Option.map_eq_some_iff.mp e
    exact .lst (SqL.of h1) (Reps.dp ds xs q h2 e1)
  | .scr ds, v, p, h, e => by
    obtain ⟨a, xs, rfl, h1, h2⟩ := h
    unfold D.py at e
    obtain ⟨q, e1, rfl⟩ := Option.map_eq_some_iff.mp e
    exact .lst h1 (Reps.dp ds xs q h2 e1)
  | .any, v, p, h, e => by cases e
  | .ty _, v, p, h, e => by cases e
  | .adr _, v, p, h, e => by cases e
  | .exc _ _ _ _ _, v, p, h, e => by cases e
  | .dct _ _, v, p, h, e => by cases e
  | .ins _ _ _, v, p, h, e => by cases e
theorem Reps.dp {K : KB} {H : Hp} : ∀ (ds : List D) (xs : List V) (ps : List PyData), Reps K H ds xs → D.pys ds = some ps → DpAll K H xs ps
  | [], xs, ps, h, e => by
    rw [show xs = [] from h]
    cases e
    exact .nil
  | d :: ds, xs, ps, h, e => by
    obtain ⟨x, r, rfl, h1, h2⟩ := h
    unfold D.pys at e
    cases e1 : D.py d with
    | none => rw [e1] at e; cases e
    | some p =>
      cases e2 : D.pys ds with
      | none => rw [e1, e2] at e; cases e
      | some q =>
        rw [e1, e2] at e
        cases e
        exact .cons (Rep.dp d x p h1 e1) (Reps.dp ds r q h2 e2)
end
def eqD (a b : D) : Option Bool := match a.py, b.py with
  | some p, some q => if SeqAt.shaped p && SeqAt.shaped q then some (PyData.eqv p q) else none
  | _, _ => none

/-! ### operators over frozen data -/
def OpOk (K : KB) (r : R2) (g : D → D → Option D) : Prop := ∀ (F H : Hp) (x y : V) (dx dy d : D), Ex F H → Rep K F dx x → Rep K F dy y → g dx dy = some d →
  ∀ Q : VK, (∀ F' H' v, Ex F F' → Ex H H' → Ex F' H' → Fresh F H F' → Rep K F' d v → Q v H') → r x y H Q
/-- over data that is seen -/
def CmpOk (K : KB) (r : R2) (g : D → D → Option Bool) : Prop := ∀ (H : Hp) (x y : V) (dx dy : D) (b : Bool), Rep K H dx x → Rep K H dy y → g dx dy = some b → ∀ Q : VK, Q (.bl b) H → r x y H Q
def dbin (da db : Den D) (g : D → D → Option D) : Den D := dbind da fun x => dbind db fun y => dlift (g x y)
/-- what changes nothing -/
def dq {α : Type} (d : Den α) : Den α := fun e => match d e with
  | some (.ok false e' a) => some (.ok false e' a)
  | some (.err m e' x) => some (.err m e' x)
  | _ => none
def dcmp (da db : Den D) (g : D → D → Option Bool) : Den D := dbind da fun x => dbind (dq db) fun y => dlift ((g x y).map D.bl)
theorem At.quiet {α β : Type} {rel : Rel α β} {K : KB} {W : WX} {den : Den α} {c : Ctx} {F H : Hp} {σ : L2.St} {e : Env} {ts : List (V × O)} {Q : β → Hp → Prop}
    (h : At rel K W (dq den) c F σ e ts H Q) : At rel K W den c F σ e ts H (fun v H' => Ex H H' ∧ (Ex H H' → Q v H')) := by
  obtain ⟨r, hr, post⟩ := h
  unfold dq at hr
  cases hd : den e with
  | none => rw [hd] at hr; cases hr
  | some r1 =>
    rw [hd] at hr
    cases r1 with
    | err m e1 x =>
      cases hr
      exact ⟨_, hd, post⟩
    | ok m e1 a =>
      cases m with
      | true => cases hr
      | false =>
        cases hr
        exact ⟨_, hd, fun F' H' v ef eh hrel => ⟨eh rfl, fun _ => post F' H' v ef eh hrel⟩⟩
section
variable {X : Cx} {W : WX} {ex a b : Expr} {pos : Pos} {da db : Den D}
theorem di_opr {r : R2} {g : D → D → Option D} (h : ∀ {ta tb}, PE X a ta → PE X b tb → PE X ex (tOp r ta tb)) (hg : OpOk X.B r g) (ha : DI X W a da) (hb : DI X W b db) : DI X W ex (dbin da db g) :=
  ⟨pe_weak (h ha.run hb.run) fun σ H Q q => by
    obtain ⟨c, F, e, ts, R, q⟩ := q
    refine ⟨c, F, e, ts, R, q.bind (rel := relI) fun F1 H1 e1 x v ef hr q1 => ⟨c, F1, e1, ts, hr.1, q1.bind (rel := relI) fun F2 H2 e2 y u ef2 hr2 q2 => ?_⟩⟩
    obtain ⟨d, hd, k⟩ := q2.lift
    exact hg F2 H2 v u x y d hr2.1.fh (Rep.mono ef2 _ _ hr.2) hr2.2 hd Q fun F' H' w ef eh fh fr hw => k F' H' w ef eh ⟨hr2.1.grow ef eh fh fr, hw⟩⟩
theorem di_op {op : Operator} {r : R2} {g : D → D → Option D} (ho : OpR X (binaryOp op) r) (hg : OpOk X.B r g) (ha : DI X W a da) (hb : DI X W b db) : DI X W (.BinOp a op b pos) (dbin da db g) := di_opr (pe_op ho) hg ha hb
theorem cmp_rd {r : R2} {g : D → D → Option Bool} (hg : CmpOk X.B r g) {ta tb : TE} {σ : L2.St} {H : Hp} {Q : VK} (q : rd relI X.B W (dcmp da db g) σ H Q) : tOp r (rd relV X.B W da) (rd relV X.B W db) σ H Q := by
  obtain ⟨c, F, e, ts, R, q⟩ := q
  refine ⟨c, F, e, ts, R, q.bind (rel := relV) fun F1 H1 e1 x v ef hr q1 => ⟨c, F1, e1, ts, hr.1, ?_⟩⟩
  have q2 := (q1.bind (rel := relV) (Q' := fun u H2 => Ex H1 H2 → r v u H2 Q) fun F2 H2 e2 y u ef2 hr2 q2 ee => by
    obtain ⟨d, hd, k⟩ := q2.lift
    obtain ⟨b, hb, rfl⟩ := Option.map_eq_some_iff.mp hd
    exact hg H2 v u x y b (Rep.mono ee _ _ hr.2) hr2.2 hb Q (k F2 H2 (.bl b) (Ex.refl _) (Ex.refl _) ⟨hr2.1, rfl⟩)).quiet
  obtain ⟨rr, h1, post⟩ := q2
  refine ⟨rr, h1, ?_⟩
  cases rr with
  | err m e1 x => exact post
  | ok m e1 a => exact fun F' H' v' ef' eh hrel => let z := post F' H' v' ef' eh hrel; z.2 z.1 z.1
theorem di_cmp {op : CmpOp} {r : R2} {g : D → D → Option Bool} (ho : OpR X (compareOp op) r) (hg : CmpOk X.B r g) (ha : DV X W a da) (hb : DV X W b db) (hm : behindInMarks op b = false) : DI X W (.Compare a [op] [b] pos) (dcmp da db g) :=
  ⟨pe_weak (pe_cmpR ho ha.run hb.run hm) fun σ H Q q => cmp_rd (ta := rd relV X.B W da) (tb := rd relV X.B W db) hg q⟩
def dtB (d : Den D) : Den Bool := dbind d fun x => dlift (match x with
  | .bl b => some b
  | _ => none)
theorem tB_rd {σ : L2.St} {H : Hp} {Q : Bool → Hp → Prop} (q : rd relB X.B W (dtB da) σ H Q) : rd relI X.B W da σ H (fun x H' => ∃ k, x = .bl k ∧ Q k H') := by
  obtain ⟨c, F, e, ts, R, q⟩ := q
  refine ⟨c, F, e, ts, R, q.bind (rel := relI) fun F1 H1 e1 x v ef hr q1 => ?_⟩
  obtain ⟨b, hb, k⟩ := q1.lift
  cases x <;> cases hb
  exact ⟨b, hr.2, k F1 H1 b (Ex.refl _) (Ex.refl _) ⟨hr.1, rfl⟩⟩
theorem dt_cmp {op : CmpOp} {r : R2} {g : D → D → Option Bool} (ho : OpR X (compareOp op) r) (hg : CmpOk X.B r g) (ha : DV X W a da) (hb : DV X W b db) (hm : behindInMarks op b = false) : DT X W (.Compare a [op] [b] pos) (dtB (dcmp da db g)) :=
  ⟨pt_weak (pt_cmpR ho ha.run hb.run hm) fun σ H Q q => cmp_rd (ta := rd relV X.B W da) (tb := rd relV X.B W db) hg (tB_rd q)⟩
/-- truth of what is seen -/
@[simp] def truD : D → Option Bool
  | .non => some false
  | .bl b => some b
  | .int i => some (i != 0)
  | .str y => if y.length ≤ sizeLine then some ((y.length : Int) != 0) else none
  | .tup ds => some (!ds.isEmpty)
  | .wtp ds => some (!ds.isEmpty)
  | .lst ds => some (!ds.isEmpty)
  | .scr ds => some (!ds.isEmpty)
  | _ => none
theorem Reps.isEmpty {K : KB} {F : Hp} {ds : List D} {xs : List V} (h : Reps K F ds xs) : xs.isEmpty = ds.isEmpty := by
  cases ds with
  | nil => rw [show xs = [] from h]; rfl
  | cons d ds =>
    obtain ⟨x, r, rfl, _⟩ := h
    rfl
theorem tru_of {K : KB} {H : Hp} {d : D} {v : V} {k : Bool} (h : Rep K H d v) (e : truD d = some k) : TruV K v H k := by
  cases d with
  | non => cases e; rw [show v = V.non from h]; exact rfl
  | bl b => cases e; rw [show v = V.bl _ from h]; exact rfl
  | int i => cases e; rw [show v = V.int _ from h]; exact rfl
  | str y =>
    rw [show v = V.str _ from h]
    have e : (if y.length ≤ sizeLine then some ((y.length : Int) != 0) else none) = some k := e
    split at e
    · rename_i hz
      cases e
      exact ⟨hz, rfl⟩
    · cases e
  | tup ds =>
    obtain ⟨a, xs, rfl, h1, h2⟩ := h
    cases e
    exact .inr (.inl ⟨xs, h1, by rw [h2.isEmpty]⟩)
  | wtp ds =>
    obtain ⟨a, xs, rfl, h1, h2⟩ := h
    cases e
    exact .inr (.inl ⟨xs, h1, by rw [h2.isEmpty]⟩)
  | lst ds =>
    obtain ⟨a, xs, rfl, h1, h2⟩ := h
    cases e
    exact .inl ⟨xs, SqL.of h1, by rw [h2.isEmpty]⟩
  | scr ds =>
    obtain ⟨a, xs, rfl, h1, h2⟩ := h
    cases e
    exact .inl ⟨xs, h1, by rw [h2.isEmpty]⟩
  | _ => cases e
def dtru (d : Den D) : Den Bool := dbind d fun d => dlift (truD d)
theorem dt_tru (h : DV X W ex da) (he : ∀ whole, isTrue ex X.env whole = (do let v ← whole; standAt ex.pos; holding [v] (truthy v)) := by intro _; rfl) : DT X W ex (dtru da) :=
  ⟨pt_weak (pt_truth h.run he) fun σ H Q q => by
    obtain ⟨c, F, e, ts, R, q⟩ := q
    refine ⟨c, F, e, ts, R, q.bind (rel := relV) fun F1 H1 e1 x v ef hr q1 => ?_⟩
    obtain ⟨b, hb, k⟩ := q1.lift
    exact ⟨b, tru_of hr.2 hb, k F1 H1 b (Ex.refl _) (Ex.refl _) ⟨hr.1, rfl⟩⟩⟩
/-! ### and, or, not, if else -/
structure DW (X : Cx) (W : WX) (ex : Expr) (den : Den Bool) : Prop where
  run : PW X ex (rd relB X.B W den)
theorem pw_weak {t t' : TT} (h : PW X ex t) (k : ∀ σ H Q, t' σ H Q → t σ H Q) : PW X ex t' := ⟨fun wh pins s σ H Q I q => h.run wh pins s σ H Q I (k σ H Q q)⟩
variable {ta tb : Den Bool} {rest : List Expr}
def dand (d f : Den Bool) : Den Bool := dbind d fun b => if b then f else dpure false
def dor (d f : Den Bool) : Den Bool := dbind d fun b => if b then dpure true else f
def dnot (d : Den Bool) : Den Bool := dbind d fun b => dpure (!b)
theorem DW.t (h : DW X W ex ta) : DT X W ex ta := ⟨h.run.pt⟩
theorem dw_and1 (h : DT X W a ta) : DW X W (.BoolOp .And [a] pos) ta := ⟨pw_and1 h.run⟩
theorem dw_or1 (h : DT X W a ta) : DW X W (.BoolOp .Or [a] pos) ta := ⟨pw_or1 h.run⟩
theorem dw_and (h : DT X W a ta) (h2 : DW X W (.BoolOp .And (b :: rest) pos) tb) : DW X W (.BoolOp .And (a :: b :: rest) pos) (dand ta tb) := ⟨pw_weak (pw_and h.run h2.run) fun σ H Q q => by
  obtain ⟨c, F, e, ts, R, q⟩ := q
  refine ⟨c, F, e, ts, R, q.bind (rel := relB) fun F1 H1 e1 x v ef hr q1 => ?_⟩
  obtain ⟨R1, rfl⟩ := hr
  cases x with
  | true => exact ⟨c, F1, e1, ts, R1, q1⟩
  | false => exact At.pure (a := false) q1 F1 H1 false (Ex.refl _) (Ex.refl _) ⟨R1, rfl⟩⟩
theorem dw_or (h : DT X W a ta) (h2 : DW X W (.BoolOp .Or (b :: rest) pos) tb) : DW X W (.BoolOp .Or (a :: b :: rest) pos) (dor ta tb) := ⟨pw_weak (pw_or h.run h2.run) fun σ H Q q => by
  obtain ⟨c, F, e, ts, R, q⟩ := q
  refine ⟨c, F, e, ts, R, q.bind (rel := relB) fun F1 H1 e1 x v ef hr q1 => ?_⟩
  obtain ⟨R1, rfl⟩ := hr
  cases x with
  | false => exact ⟨c, F1, e1, ts, R1, q1⟩
  | true => exact At.pure (a := true) q1 F1 H1 true (Ex.refl _) (Ex.refl _) ⟨R1, rfl⟩⟩
theorem dt_not (h : DT X W a ta) : DT X W (.UnaryOp .Not a pos) (dnot ta) := ⟨pt_weak (pt_not h.run) fun σ H Q q => by
  obtain ⟨c, F, e, ts, R, q⟩ := q
  refine ⟨c, F, e, ts, R, q.bind (rel := relB) fun F1 H1 e1 x v ef hr q1 => ?_⟩
  obtain ⟨R1, rfl⟩ := hr
  exact At.pure q1 F1 H1 (!x) (Ex.refl _) (Ex.refl _) ⟨R1, rfl⟩⟩
/-- .. as values -/
def dandV (d f : Den D) : Den D := dbind (dtB d) fun b => if b then f else dpure (.bl false)
def dorV (d f : Den D) : Den D := dbind (dtB d) fun b => if b then dpure (.bl true) else f
def dnotV (d : Den D) : Den D := dbind (dtB d) fun b => dpure (.bl (!b))
theorem At.boolV {γ δ : Type} {rel2 : Rel γ δ} {K : KB} {f : Bool → Den γ} {c : Ctx} {F H : Hp} {σ : L2.St} {e : Env} {ts : List (V × O)} {Q : δ → Hp → Prop} {Q' : V → Hp → Prop}
    (h : At rel2 K W (dbind (dtB da) f) c F σ e ts H Q) (k : ∀ F1 H1 e1 b, Ex F F1 → RE K c F1 H1 σ e1 ts → At rel2 K W (f b) c F1 σ e1 ts H1 Q → Q' (.bl b) H1) : At relI K W da c F σ e ts H Q' := by
  have h1 := h.bind (rel := relB) (Q' := fun b H' => Q' (.bl b) H') fun F1 H1 e1 b b' ef hr q => by
    obtain ⟨R1, rfl⟩ := hr
    exact k F1 H1 e1 b ef R1 q
  exact h1.bind (rel := relI) fun F1 H1 e1 x v ef hr q => by
    obtain ⟨b, hb, kk⟩ := q.lift
    cases x <;> cases hb
    rw [show v = V.bl b from hr.2]
    exact kk F1 H1 b (Ex.refl _) (Ex.refl _) ⟨hr.1, rfl⟩
theorem di_one {op} (h : DI X W a da) : DI X W (.BoolOp op [a] pos) da := ⟨pe_one h.run⟩
theorem di_and (h : DI X W a da) (h2 : DI X W (.BoolOp .And (b :: rest) pos) db) : DI X W (.BoolOp .And (a :: b :: rest) pos) (dandV da db) := ⟨pe_weak (pe_and h.run h2.run) fun σ H Q q => by
  obtain ⟨c, F, e, ts, R, q⟩ := q
  refine ⟨c, F, e, ts, R, q.boolV fun F1 H1 e1 x ef R1 q1 => ⟨x, rfl, ?_⟩⟩
  cases x with
  | true => exact ⟨c, F1, e1, ts, R1, q1⟩
  | false => exact At.pure (a := D.bl false) q1 F1 H1 _ (Ex.refl _) (Ex.refl _) ⟨R1, rfl⟩⟩
def dif {α : Type} (t : Den Bool) (x y : Den α) : Den α := dbind t fun b => if b then x else y

/-! ### argument lists -/
theorem da_nil : DA X W [] (dpure []) := ⟨pa_weak pa_nil fun σ H Q q => by
  obtain ⟨c, F, e, ts, R, q⟩ := q
  exact At.pure q F H [] (Ex.refl _) (Ex.refl _) ⟨R, rfl⟩⟩
def dcons (d : Den D) (ds : Den (List D)) : Den (List D) := dbind d fun x => dbind ds fun xs => dpure (x :: xs)
theorem da_cons {es : List Expr} {ds : Den (List D)} (h : DI X W a da) (hr : DA X W es ds) (hs : starEach (a :: es) X.env = (false, eval a X.env) :: starEach es X.env := by rfl) : DA X W (a :: es) (dcons da ds) :=
  ⟨pa_weak (pa_cons h.run hr.run hs) fun σ H Q q => by
    obtain ⟨c, F, e, ts, R, q⟩ := q
    refine ⟨c, F, e, ts, R, q.bind (rel := relI) fun F1 H1 e1 x v ef hr q1 => ⟨c, F1, e1, ts, hr.1, q1.bind (rel := relA) fun F2 H2 e2 y u ef2 hr2 q2 => ?_⟩⟩
    exact At.pure q2 F2 H2 (v :: u) (Ex.refl _) (Ex.refl _) ⟨hr2.1, v, u, rfl, Rep.mono ef2 _ _ hr.2, hr2.2⟩⟩
/-- seen arguments -/
def relAV : Rel (List D) (List V) := fun K c F H σ e ts d v => RE K c F H σ e ts ∧ Reps K H d v
structure DAV (X : Cx) (W : WX) (es : List Expr) (den : Den (List D)) : Prop where
  run : PA X es (rd relAV X.B W den)
theorem dv_nil : DAV X W [] (dpure []) := ⟨pa_weak pa_nil fun σ H Q q => by
  obtain ⟨c, F, e, ts, R, q⟩ := q
  exact At.pure q F H [] (Ex.refl _) (Ex.refl _) ⟨R, rfl⟩⟩
def dconsV (d : Den D) (ds : Den (List D)) : Den (List D) := dbind d fun x => dbind (dq ds) fun xs => dpure (x :: xs)
theorem dv_cons {es : List Expr} {ds : Den (List D)} (h : DV X W a da) (hr : DAV X W es ds) (hs : starEach (a :: es) X.env = (false, eval a X.env) :: starEach es X.env := by rfl) : DAV X W (a :: es) (dconsV da ds) :=
  ⟨pa_weak (pa_cons h.run hr.run hs) fun σ H Q q => by
    obtain ⟨c, F, e, ts, R, q⟩ := q
    refine ⟨c, F, e, ts, R, q.bind (rel := relV) fun F1 H1 e1 x v ef hr q1 => ⟨c, F1, e1, ts, hr.1, ?_⟩⟩
    have q2 := (q1.bind (rel := relAV) (Q' := fun u H2 => Ex H1 H2 → Q (v :: u) H2) fun F2 H2 e2 y u ef2 hr2 q2 ee =>
      At.pure q2 F2 H2 (v :: u) (Ex.refl _) (Ex.refl _) ⟨hr2.1, v, u, rfl, Rep.mono ee _ _ hr.2, hr2.2⟩).quiet
    obtain ⟨rr, h1, post⟩ := q2
    refine ⟨rr, h1, ?_⟩
    cases rr with
    | err m e1 x => exact post
    | ok m e1 a => exact fun F' H' v' ef' eh hrel => let z := post F' H' v' ef' eh hrel; z.2 z.1 z.1⟩
abbrev R1 := List V → Hp → VK → Prop
/-- of seen arguments; what comes needs no heap -/
def CallOkV (K : KB) (r : R1) (g : List D → Option D) : Prop := ∀ (H : Hp) (xs : List V) (ds : List D) (d : D), Reps K H ds xs → g ds = some d →
  ∃ v, (∀ F, Rep K F d v) ∧ ∀ Q : VK, Q v H → r xs H Q
variable {es : List Expr} {ds : Den (List D)} {x : Str} {p : Pos} {id : String}
theorem di_callBV {r : R1} {g : List D → Option D} (hc : CallR X (.builtin id) r) (hk : CallOkV X.B r g) (hg : Gl X x) (hm : X.mg x = none) (hv : bootBuiltins x = some (.builtin id)) (ha : DAV X W (a :: es) ds) (hn : x ≠ "__name__" := by decide)
    (hdb : (x == ("__debug__" : Str)) = false := by decide) (he : starEach (a :: es) X.env = (false, eval a X.env) :: starEach es X.env := by rfl) (hpl : (backTo pos (starEach es X.env)).any (·.1) = false := by rfl) :
    DI X W (.Call (.Name x p) (a :: es) [] pos) (dbind ds fun vs => dlift (g vs)) :=
  ⟨pe_weak (pe_callB hc hg hm hv ha.run hn hdb he hpl) fun σ H Q q => by
    obtain ⟨c, F, e, ts, R, q⟩ := q
    refine ⟨c, F, e, ts, R, q.bind (rel := relAV) fun F1 H1 e1 y v ef hr q1 => ?_⟩
    obtain ⟨d, hd, k⟩ := q1.lift
    obtain ⟨w, hw, kk⟩ := hk H1 v y d hr.2 hd
    exact kk Q (k F1 H1 w (Ex.refl _) (Ex.refl _) ⟨hr.1, hw F1⟩)⟩
theorem di_callTV {r : R1} {g : List D → Option D} {T : String} (hc : CallR X (.type T) r) (hk : CallOkV X.B r g) (hg : Gl X x) (hm : X.mg x = none) (hv : bootBuiltins x = some (.type T)) (ha : DAV X W (a :: es) ds) (hn : x ≠ "__name__" := by decide)
    (hdb : (x == ("__debug__" : Str)) = false := by decide) (he : starEach (a :: es) X.env = (false, eval a X.env) :: starEach es X.env := by rfl) (hpl : (backTo pos (starEach es X.env)).any (·.1) = false := by rfl) :
    DI X W (.Call (.Name x p) (a :: es) [] pos) (dbind ds fun vs => dlift (g vs)) :=
  ⟨pe_weak (pe_callTy hc hg hm hv ha.run hn hdb he hpl) fun σ H Q q => by
    obtain ⟨c, F, e, ts, R, q⟩ := q
    refine ⟨c, F, e, ts, R, q.bind (rel := relAV) fun F1 H1 e1 y v ef hr q1 => ?_⟩
    obtain ⟨d, hd, k⟩ := q1.lift
    obtain ⟨w, hw, kk⟩ := hk H1 v y d hr.2 hd
    exact kk Q (k F1 H1 w (Ex.refl _) (Ex.refl _) ⟨hr.1, hw F1⟩)⟩
def dtup (ds : Den (List D)) : Den D := dbind ds fun xs => dlift (if xs.length ≤ sizeLine then some (.tup xs) else none)
def dlst (ds : Den (List D)) : Den Rv := dbind ds fun xs => dlift (if xs.length ≤ sizeLine then some (.new (.lst (xs.map O.im))) else none)
theorem di_tup {n1} (h : DA X W es ds) : DI X W (.Tuple es n1 pos) (dtup ds) :=
  ⟨pe_weak (pe_tup h.run) fun σ H Q q => by
    obtain ⟨c, F, e, ts, R, q⟩ := q
    refine ⟨c, F, e, ts, R, q.bind (rel := relA) fun F1 H1 e1 y v ef hr q1 => ?_⟩
    obtain ⟨d, hd, k⟩ := q1.lift
    split at hd
    · rename_i hz
      cases hd
      refine ⟨by rw [← hr.2.length]; exact hz, fun a ha => k (upd F1 a (.tup v)) (upd H1 a (.tup v)) (.ref a) (Ex.new (none_of_ex hr.1.fh ha)) (Ex.new ha) ⟨hr.1.newF ha, a, v, rfl, SqT.of upd_same, Reps.mono (Ex.new (none_of_ex hr.1.fh ha)) _ _ hr.2⟩⟩
    · cases hd⟩
theorem de_lst (h : DA X W es ds) : DE X W (.List es pos) (dlst ds) :=
  ⟨pe_weak (pe_lst h.run) fun σ H Q q => by
    obtain ⟨c, F, e, ts, R, q⟩ := q
    refine ⟨c, F, e, ts, R, q.bind (rel := relA) fun F1 H1 e1 y v ef hr q1 => ?_⟩
    obtain ⟨d, hd, k⟩ := q1.lift
    split at hd
    · rename_i hz
      cases hd
      refine ⟨by rw [← hr.2.length]; exact hz, fun a ha => k F1 (upd H1 a (.lst v)) (.ref a) (Ex.refl _) (Ex.new ha) ?_⟩
      exact hr.1.newO ha ⟨a, v, [], rfl, rfl, upd_same, owns_im hr.2⟩
    · cases hd⟩
end
end DL

/-! DLD: statements, defs, calls of defs. -/
namespace DL
open PySem PySem.Spec PyProof.Rows L2 Evl

def SRes.more (m : Bool) : Option SRes → Option SRes
  | some (.nx m' e) => some (.nx (m || m') e)
  | some (.rt m' e r) => some (.rt (m || m') e r)
  | some (.bk m' e) => some (.bk (m || m') e)
  | some (.ct m' e) => some (.ct (m || m') e)
  | some (.er m' e x) => some (.er (m || m') e x)
  | none => none
def PostS (K : KB) (W : WX) (D : Ends) (c : Ctx) (F : Hp) (ts : List (V × O)) (H : Hp) (r : SRes) : Prop := match r with
    | .nx m e' => ∀ F' H' σ', Ex F F' → (m = false → Ex H H') → RE K c F' H' σ' e' ts → D.nx σ' H'
    | .rt m e' rv => ∀ F' H' σ' v, Ex F F' → (m = false → Ex H H') → relR K c F' H' σ' e' ts rv v → D.rt v H'
    | .bk m e' => ∀ F' H' σ', Ex F F' → (m = false → Ex H H') → RE K c F' H' σ' e' ts → D.bk σ' H'
    | .ct m e' => ∀ F' H' σ', Ex F F' → (m = false → Ex H H') → RE K c F' H' σ' e' ts → D.ct σ' H'
    | .er m e' x => ∀ F' H' σ' cls d, Ex F F' → (m = false → Ex H H') → RE K c F' H' σ' e' ts → XRel K F' H' x cls d → W cls d σ' H'
def AtS (K : KB) (W : WX) (den : SDen) (D : Ends) (c : Ctx) (F : Hp) (σ : L2.St) (e : Env) (ts : List (V × O)) (H : Hp) : Prop := ∃ r, den e = some r ∧ PostS K W D c F ts H r
def rdS (K : KB) (W : WX) (den : SDen) : TS := fun D σ H => ∃ c F e ts, RE K c F H σ e ts ∧ AtS K W den D c F σ e ts H
structure DS (X : Cx) (W : WX) (st : Stmt) (den : SDen) : Prop where
  run : PS X st (rdS X.B W den)
structure DSs (X : Cx) (W : WX) (st : List Stmt) (den : SDen) : Prop where
  run : PSs X st (rdS X.B W den)
/-- Ends, the next turned -/
abbrev withNx (D : Ends) (N : L2.St → Hp → Prop) : Ends := { D with nx := N }
def snext : SDen := fun e => some (.nx false e)
def sseq (a b : SDen) : SDen := fun e => match a e with
  | some (.nx m e') => SRes.more m (b e')
  | r => r
def sbind {α : Type} (d : Den α) (f : α → SDen) : SDen := fun e => match d e with
  | some (.ok m e' a) => SRes.more m (f a e')
  | some (.err m e' x) => some (.er m e' x)
  | none => none
section
variable {K : KB} {W : WX} {c : Ctx} {F H : Hp} {σ : L2.St} {e : Env} {ts : List (V × O)}
theorem or_l {a b : Bool} (h : (a || b) = false) : a = false := by cases a <;> first | rfl | cases h
theorem or_r {a b : Bool} (h : (a || b) = false) : b = false := by cases a <;> first | exact h | cases h
/-- the rest of a way: what it wants, behind a first part that ended at F1, H1 -/
theorem AtS.more {r2 : SDen} {e1 : Env} {m : Bool} {D : Ends} {F1 H1 : Hp} {σ1 : L2.St} {r : SRes} (hr : SRes.more m (r2 e1) = some r) (ef : Ex F F1) (eh : m = false → Ex H H1)
    (post : PostS K W D c F ts H r) : AtS K W r2 D c F1 σ1 e1 ts H1 := by
  cases h2 : r2 e1 with
  | none => rw [h2] at hr; cases hr
  | some q =>
    rw [h2] at hr
    refine ⟨q, h2, ?_⟩
    cases q with
    | nx m2 e2 =>
      cases hr
      exact fun F' H' σ' ef' eh' R => post F' H' σ' (ef.trans ef') (fun z => (eh (or_l z)).trans (eh' (or_r z))) R
    | rt m2 e2 rv =>
      cases hr
      exact fun F' H' σ' v ef' eh' R => post F' H' σ' v (ef.trans ef') (fun z => (eh (or_l z)).trans (eh' (or_r z))) R
    | bk m2 e2 =>
      cases hr
      exact fun F' H' σ' ef' eh' R => post F' H' σ' (ef.trans ef') (fun z => (eh (or_l z)).trans (eh' (or_r z))) R
    | ct m2 e2 =>
      cases hr
      exact fun F' H' σ' ef' eh' R => post F' H' σ' (ef.trans ef') (fun z => (eh (or_l z)).trans (eh' (or_r z))) R
    | er m2 e2 x =>
      cases hr
      exact fun F' H' σ' cls d ef' eh' R hx => post F' H' σ' cls d (ef.trans ef') (fun z => (eh (or_l z)).trans (eh' (or_r z))) R hx
theorem AtS.sbind {α β : Type} {rel : Rel α β} {den : Den α} {f : α → SDen} {D : Ends} {Q' : β → Hp → Prop} (h : AtS K W (sbind den f) D c F σ e ts H)
    (k : ∀ F1 H1 e1 a v, Ex F F1 → rel K c F1 H1 σ e1 ts a v → AtS K W (f a) D c F1 σ e1 ts H1 → Q' v H1) : At rel K W den c F σ e ts H Q' := by
  obtain ⟨r, hr, post⟩ := h
  unfold DL.sbind at hr
  cases hd : den e with
  | none => rw [hd] at hr; cases hr
  | some r1 =>
    rw [hd] at hr
    cases r1 with
    | err m e1 x =>
      cases hr
      exact ⟨_, hd, fun F' H' cls d ef eh R hx => post F' H' σ cls d ef eh R hx⟩
    | ok m e1 a => exact ⟨_, hd, fun F1 H1 v ef eh hrel => k F1 H1 e1 a v ef hrel (AtS.more hr ef eh post)⟩
theorem AtS.seq {d f : SDen} {D : Ends} {N : L2.St → Hp → Prop} (h : AtS K W (sseq d f) D c F σ e ts H)
    (k : ∀ F1 H1 σ1 e1, Ex F F1 → RE K c F1 H1 σ1 e1 ts → AtS K W f D c F1 σ1 e1 ts H1 → N σ1 H1) : AtS K W d (withNx D N) c F σ e ts H := by
  obtain ⟨r, hr, post⟩ := h
  unfold sseq at hr
  cases hd : d e with
  | none => rw [hd] at hr; cases hr
  | some r1 =>
    rw [hd] at hr
    refine ⟨r1, hd, ?_⟩
    cases r1 with
    | nx m e1 => exact fun F1 H1 σ1 ef eh R => k F1 H1 σ1 e1 ef R (AtS.more hr ef eh post)
    | rt m e1 rv => cases hr; exact post
    | bk m e1 => cases hr; exact post
    | ct m e1 => cases hr; exact post
    | er m e1 x => cases hr; exact post
/-- the ends weakened -/
theorem AtS.imp {d : SDen} {D D' : Ends} (h : AtS K W d D c F σ e ts H) (k1 : ∀ σ' H', D.nx σ' H' → D'.nx σ' H') (k2 : ∀ v H', D.rt v H' → D'.rt v H') (k3 : ∀ σ' H', D.bk σ' H' → D'.bk σ' H') (k4 : ∀ σ' H', D.ct σ' H' → D'.ct σ' H') : AtS K W d D' c F σ e ts H := by
  obtain ⟨r, hr, post⟩ := h
  refine ⟨r, hr, ?_⟩
  cases r with
  | nx m e1 => exact fun F1 H1 σ1 ef eh R => k1 _ _ (post F1 H1 σ1 ef eh R)
  | rt m e1 rv => exact fun F1 H1 σ1 v ef eh R => k2 _ _ (post F1 H1 σ1 v ef eh R)
  | bk m e1 => exact fun F1 H1 σ1 ef eh R => k3 _ _ (post F1 H1 σ1 ef eh R)
  | ct m e1 => exact fun F1 H1 σ1 ef eh R => k4 _ _ (post F1 H1 σ1 ef eh R)
  | er m e1 x => exact post
theorem AtS.next {D : Ends} (h : AtS K W snext D c F σ e ts H) (R : RE K c F H σ e ts) : D.nx σ H := by
  obtain ⟨r, hr, post⟩ := h
  cases hr
  exact post F H σ (Ex.refl _) (fun _ => Ex.refl _) R
end
section
variable {X : Cx} {W : WX} {ex : Expr} {pos : Pos} {st : Stmt} {rest body : List Stmt} {d f : SDen}
theorem dss_nil : DSs X W [] snext := ⟨pss_weak pss_nil fun D σ H q => by
  obtain ⟨c, F, e, ts, R, q⟩ := q
  exact q.next R⟩
theorem dss_one (h : DS X W st d) : DSs X W [st] d := ⟨pss_one h.run⟩
theorem dss_cons (h : DS X W st d) (h2 : DSs X W rest f) : DSs X W (st :: rest) (sseq d f) := ⟨pss_weak (pss_cons h.run h2.run) fun D σ H q => by
  obtain ⟨c, F, e, ts, R, q⟩ := q
  exact ⟨c, F, e, ts, R, q.seq fun F1 H1 σ1 e1 ef R1 q1 => ⟨c, F1, e1, ts, R1, q1⟩⟩⟩
/-- what is not come to -/
theorem ds_never : DS X W st (fun _ => none) := ⟨ps_weak ps_never fun D σ H q => by
  obtain ⟨c, F, e, ts, R, r, hr, _⟩ := q
  cases hr⟩
theorem ds_break : DS X W (.Break pos) (fun e => some (.bk false e)) := ⟨ps_weak ps_break fun D σ H q => by
  obtain ⟨c, F, e, ts, R, r, hr, post⟩ := q
  cases hr
  exact post F H σ (Ex.refl _) (fun _ => Ex.refl _) R⟩
theorem ds_cont : DS X W (.Continue pos) (fun e => some (.ct false e)) := ⟨ps_weak ps_continue fun D σ H q => by
  obtain ⟨c, F, e, ts, R, r, hr, post⟩ := q
  cases hr
  exact post F H σ (Ex.refl _) (fun _ => Ex.refl _) R⟩
def sif (t : Den Bool) (a b : SDen) : SDen := sbind t fun k => if k then a else b
theorem ds_if {t : Expr} {dt : Den Bool} {a b : List Stmt} {da db : SDen} (h : DT X W t dt) (h1 : DSs X W a da) (h2 : DSs X W b db) : DS X W (.If t a b pos) (sif dt da db) := ⟨ps_weak (ps_if h.run h1.run h2.run) fun D σ H q => by
  obtain ⟨c, F, e, ts, R, q⟩ := q
  refine ⟨c, F, e, ts, R, q.sbind (rel := relB) fun F1 H1 e1 x v ef hr q1 => ?_⟩
  obtain ⟨R1, rfl⟩ := hr
  cases x with
  | true => exact ⟨c, F1, e1, ts, R1, q1⟩
  | false => exact ⟨c, F1, e1, ts, R1, q1⟩⟩
def srt (d : Den Rv) : SDen := sbind d fun rv e => some (.rt false e rv)
theorem ds_ret {de : Den Rv} (h : DE X W ex de) : DS X W (.Return (some ex) pos) (srt de) := ⟨ps_weak (ps_ret h.run) fun D σ H q => by
  obtain ⟨c, F, e, ts, R, q⟩ := q
  refine ⟨c, F, e, ts, R, q.sbind (rel := relR) fun F1 H1 e1 x v ef hr q1 => ?_⟩
  obtain ⟨r, hr2, post⟩ := q1
  cases hr2
  exact post F1 H1 σ v (Ex.refl _) (fun _ => Ex.refl _) hr⟩
def sdrop (d : Den Rv) : SDen := sbind d fun _ => snext
theorem ds_expr {de : Den Rv} (h : DE X W ex de) (hs : swapsWith ex none pos.line X.env = pure false := by rfl) : DS X W (.Expr ex pos) (sdrop de) := ⟨ps_weak (ps_expr h.run hs) fun D σ H q => by
  obtain ⟨c, F, e, ts, R, q⟩ := q
  refine ⟨c, F, e, ts, R, q.sbind (rel := relR) fun F1 H1 e1 x v ef hr q1 => ?_⟩
  cases x with
  | im d => exact q1.next hr.1
  | new o => exact q1.next (RE.drop hr)
  | bor i o => exact q1.next hr.1⟩
/-- a name takes a value -/
def sset (i : Nat) (d : Den Rv) : SDen := sbind d fun rv e => if e.free i = true then (match rv with
  | .im d => some (.nx false (e.set i (some (false, .im d))))
  | .new o => some (.nx false (e.set i (some (false, o))))
  | .bor j o => match e[j]? with
    | some (some (b, _)) => if Env.free (e.set j (some (b, .im o.flat))) i = true then some (.nx false ((e.set j (some (b, .im o.flat))).set i (some (false, .im o.flat)))) else none
    | _ => none) else none
theorem AtS.set {K : KB} {c : Ctx} {F H : Hp} {σ : L2.St} {e : Env} {ts : List (V × O)} {D : Ends} {i : Nat} {de : Den Rv} (q : AtS K W (sset i de) D c F σ e ts H) : At relR K W de c F σ e ts H (fun x H1 => D.nx (σ.set i (some x)) H1) := by
  refine q.sbind (rel := relR) fun F1 H1 e1 rv v ef hr q1 => ?_
  obtain ⟨r, hr2, post⟩ := q1
  dsimp only at hr2
  split at hr2
  · rename_i hfree
    cases rv with
    | im d =>
      cases hr2
      exact post F1 H1 _ (Ex.refl _) (fun _ => Ex.refl _) (hr.1.setIm hfree hr.2)
    | new o =>
      cases hr2
      exact post F1 H1 _ (Ex.refl _) (fun _ => Ex.refl _) (RE.setO hr hfree)
    | bor j o =>
      obtain ⟨R1, hv, b, hb⟩ := hr
      dsimp only at hr2
      rw [hb] at hr2
      dsimp only at hr2
      split at hr2
      · rename_i hf2
        cases hr2
        obtain ⟨F2, v2, e2, hv2, R2, hrep⟩ := R1.freezeS hb
        rw [hv] at hv2
        cases hv2
        exact post F2 H1 _ e2 (fun _ => Ex.refl _) (R2.setIm hf2 hrep)
      · cases hr2
  · cases hr2
theorem ds_set {i : Nat} {x : Str} {pos' : Pos} {de : Den Rv} (hN : X.N.Nodup) (hi : X.N[i]? = some x) (hx : Loc X.env.scope x) (h : DE X W ex de) (hs : swapsWith ex (some (.Name x pos')) pos.line X.env = pure false := by rfl)
    (hf : X.fn x = true ∨ X.env.scope.names.lookup x = some .local := by first | exact .inl rfl | exact .inr rfl | assumption) : DS X W (.Assign [.Name x pos'] ex pos) (sset i de) := ⟨ps_weak (ps_set (i := i) hN hi hx h.run hs) fun D σ H q => by
  obtain ⟨c, F, e, ts, R, q⟩ := q
  exact ⟨c, F, e, ts, R, q.set⟩⟩
/-! ### targets -/
/-- what a store leaves: all slots but these -/
def Off (sl : List Nat) (σ σ' : L2.St) : Prop := σ'.length = σ.length ∧ ∀ j, j ∉ sl → σ'[j]? = σ[j]?
theorem Off.refl {sl : List Nat} {σ : L2.St} : Off sl σ σ := ⟨rfl, fun _ _ => rfl⟩
theorem Off.trans {s1 s2 : List Nat} {σ σ1 σ2 : L2.St} (h : Off s1 σ σ1) (h2 : Off s2 σ1 σ2) : Off (s1 ++ s2) σ σ2 :=
  ⟨h2.1.trans h.1, fun j hj => (h2.2 j fun z => hj (List.mem_append_right _ z)).trans (h.2 j fun z => hj (List.mem_append_left _ z))⟩
def tgR (K : KB) (bind : D → Env → Option Env) (sl : List Nat) : TG := fun v σ H Q => ∃ c F e ts d e', RE K c F H σ e ts ∧ Rep K F d v ∧ bind d e = some e' ∧ ∀ σ', RE K c F H σ' e' ts → Off sl σ σ' → Q σ' H
structure DG (X : Cx) (tg : Expr) (bind : D → Env → Option Env) (sl : List Nat) : Prop where
  run : PG X tg (tgR X.B bind sl)
theorem pg_weak {tg : Expr} {t t' : TG} (h : PG X tg t) (k : ∀ v σ H Q, t' v σ H Q → t v σ H Q) : PG X tg t' := ⟨fun pins s σ H v u Q I r q => h.run pins s σ H v u Q I r (k v σ H Q q)⟩
def bName (i : Nat) : D → Env → Option Env := fun d e => if e.free i = true then some (e.set i (some (false, .im d))) else none
theorem dg_name {i : Nat} {x : Str} (hN : X.N.Nodup) (hi : X.N[i]? = some x) (hx : Loc X.env.scope x) (hf : X.fn x = true ∨ X.env.scope.names.lookup x = some .local := by first | exact .inl rfl | exact .inr rfl | assumption) : DG X (.Name x pos) (bName i) [i] :=
  ⟨pg_weak (pg_name hN hi hx hf) fun v σ H Q q => by
    obtain ⟨c, F, e, ts, d, e', R, hr, hb, k⟩ := q
    unfold bName at hb
    split at hb
    · rename_i hfree
      cases hb
      exact k _ (R.setIm hfree hr) ⟨by rw [List.length_set], fun j hj => List.getElem?_set_ne (fun z => hj (by rw [z]; exact List.mem_cons_self))⟩
    · cases hb⟩
def tgsR (K : KB) (bind : List D → Env → Option Env) (sl : List Nat) : TGs := fun vs σ H Q => ∃ c F e tt ds e', RE K c F H σ e tt ∧ Reps K F ds vs ∧ bind ds e = some e' ∧ ∀ σ', RE K c F H σ' e' tt → Off sl σ σ' → Q σ' H
structure DGs (X : Cx) (ts : List Expr) (bind : List D → Env → Option Env) (sl : List Nat) : Prop where
  run : PGs X ts (tgsR X.B bind sl)
theorem pgs_weak {tg : List Expr} {t t' : TGs} (h : PGs X tg t) (k : ∀ v σ H Q, t' v σ H Q → t v σ H Q) : PGs X tg t' := ⟨fun pins s σ H v u Q I r q => h.run pins s σ H v u Q I r (k v σ H Q q)⟩
def bNil : List D → Env → Option Env := fun ds e => match ds with
  | [] => some e
  | _ => none
def bCons (b : D → Env → Option Env) (bs : List D → Env → Option Env) : List D → Env → Option Env := fun ds e => match ds with
  | d :: ds => (b d e).bind fun e' => bs ds e'
  | [] => none
theorem dgs_nil : DGs X [] bNil [] := ⟨pgs_weak pgs_nil fun vs σ H Q q => by
  obtain ⟨c, F, e, ts, ds, e', R, hr, hb, k⟩ := q
  cases ds with
  | nil =>
    cases hb
    exact ⟨hr, k σ R Off.refl⟩
  | cons d ds => cases hb⟩
theorem dgs_cons {tg : Expr} {tgs : List Expr} {b : D → Env → Option Env} {bs : List D → Env → Option Env} {s1 s2 : List Nat} (h : DG X tg b s1) (h2 : DGs X tgs bs s2) (hs : (assignEach (tg :: tgs) X.env).map (·.2) = assign tg X.env :: (assignEach tgs X.env).map (·.2) := by rfl) :
    DGs X (tg :: tgs) (bCons b bs) (s1 ++ s2) := ⟨pgs_weak (pgs_cons h.run h2.run hs) fun vs σ H Q q => by
  obtain ⟨c, F, e, ts, ds, e', R, hr, hb, k⟩ := q
  cases ds with
  | nil => cases hb
  | cons d ds =>
    obtain ⟨x, r, e1, h1, h2⟩ := hr
    obtain ⟨e2, hb1, hb2⟩ := Option.bind_eq_some_iff.mp hb
    exact ⟨x, r, e1, c, F, e, ts, d, e2, R, h1, hb1, fun σ' R' o' => ⟨c, F, e2, ts, ds, e', R', h2, hb2, fun σ2 R2 o2 => k σ2 R2 (o'.trans o2)⟩⟩⟩
def bTup (n : Nat) (bs : List D → Env → Option Env) : D → Env → Option Env := fun d e => match d with
  | .tup ds => if ds.length = n then bs ds e else none
  | .wtp ds => if ds.length = n then bs ds e else none
  | _ => none
theorem dg_tup {es : List Expr} {k n : Nat} {bs : List D → Env → Option Env} {sl : List Nat} (hc : X.calm = true) (h : DGs X es bs sl) (hn : (assignEach es X.env).length = n := by rfl) (hst : (assignEach es X.env).findIdx? (·.1) = none := by rfl) :
    DG X (.Tuple es k pos) (bTup n bs) sl := ⟨pg_weak (pg_tup hc h.run hn hst) fun v σ H Q q => by
  obtain ⟨c, F, e, ts, d, e', R, hr, hb, k⟩ := q
  cases d with
  | tup ds =>
    obtain ⟨a, xs, rfl, h1, h2⟩ := hr
    unfold bTup at hb
    dsimp only at hb
    split at hb
    · rename_i hz
      exact ⟨a, xs, rfl, ex_t R.fh h1, by rw [← h2.length]; exact hz, c, F, e, ts, ds, e', R, h2, hb, k⟩
    · cases hb
  | wtp ds =>
    obtain ⟨a, xs, rfl, h1, h2⟩ := hr
    unfold bTup at hb
    dsimp only at hb
    split at hb
    · rename_i hz
      exact ⟨a, xs, rfl, ex_t R.fh h1, by rw [← h2.length]; exact hz, c, F, e, ts, ds, e', R, h2, hb, k⟩
    · cases hb
  | _ => cases hb⟩
/-- target = value, frozen -/
def sasg (b : D → Env → Option Env) (d : Den D) : SDen := sbind d fun x e => (b x e).map fun e' => SRes.nx false e'
theorem ds_asg {tg : Expr} {b : D → Env → Option Env} {sl : List Nat} {de : Den D} (h : DI X W ex de) (hg : DG X tg b sl) (hs : swapsWithSole [tg] ex pos.line X.env = pure false := by rfl) (hw : swappedStores [tg] ex X.env = pure none := by rfl)
    (h1 : (assignEach [tg] X.env).map (·.2) = [assign tg X.env] := by rfl) : DS X W (.Assign [tg] ex pos) (sasg b de) := ⟨ps_weak (ps_asg h.run hg.run hs hw h1) fun D σ H q => by
  obtain ⟨c, F, e, ts, R, q⟩ := q
  refine ⟨c, F, e, ts, R, q.sbind (rel := relI) fun F1 H1 e1 x v ef hr q1 => ?_⟩
  obtain ⟨r, hr2, post⟩ := q1
  obtain ⟨e2, hb, he2⟩ := Option.map_eq_some_iff.mp hr2
  subst he2
  exact ⟨c, F1, e1, ts, x, e2, hr.1, hr.2, hb, fun σ' R' _ => post F1 H1 σ' (Ex.refl _) (fun _ => Ex.refl _) R'⟩⟩
end
end DL

/-! DLE: defs as functions of data; calls. -/
namespace DL
open PySem PySem.Spec PyProof.Rows L2 Evl

inductive FRv where
  | im (d : D) | new (o : O)
inductive FRes where
  | ok (m : Bool) (os : List O) (r : FRv)
  | err (m : Bool) (os : List O) (x : Xn)
abbrev FDen := List O → Option FRes
def frvs : FRv → V → List (V × O)
  | .im _, _ => []
  | .new o, v => [(v, o)]
def FRep (K : KB) (F : Hp) : FRv → V → Prop
  | .im d, v => Rep K F d v
  | .new _, _ => True
def PostF (K : KB) (F H : Hp) (fs : List Addr) (Q : VK) (E : XK) (vs : List V) : FRes → Prop
  | .ok m os' rv => ∀ F' H' v fs', Ex F F' → Ex F' H' → (m = false → Ex H H') → (∀ p u, p ∉ fs → H p = some u → H' p = some u) → (∀ p, F' p ≠ none → F p ≠ none ∨ H p = none ∨ p ∈ fs) → FRep K F' rv v →
      Held K F' H' (frvs rv v ++ vs.zip os') fs' → fs'.Nodup → (∀ p ∈ fs', F' p = none ∧ (p ∈ fs ∨ H p = none)) → Q v H'
  | .err m os' x => ∀ F' H' cls d fs', Ex F F' → Ex F' H' → (m = false → Ex H H') → (∀ p u, p ∉ fs → H p = some u → H' p = some u) → (∀ p, F' p ≠ none → F p ≠ none ∨ H p = none ∨ p ∈ fs) → XRel K F' H' x cls d →
      Held K F' H' (vs.zip os') fs' → fs'.Nodup → (∀ p ∈ fs', F' p = none ∧ (p ∈ fs ∨ H p = none)) → E cls d H'
def spD (K : KB) (n : Nat) (f : FDen) : Sp := fun vs H Q E => vs.length = n ∧ ∃ F os fs r, os.length = n ∧ Held K F H (vs.zip os) fs ∧ fs.Nodup ∧ (∀ p ∈ fs, F p = none) ∧ Ex F H ∧ f os = some r ∧ PostF K F H fs Q E vs r
@[simp] def slot0 : O → Slot
  | .im d => some (false, .im d)
  | o => some (true, o)
def env0 (os : List O) (n : Nat) : Env := os.map slot0 ++ List.replicate (n - os.length) none
def outs : List O → Env → Option (List O)
  | [], _ => some []
  | .im d :: os, _ :: e => (outs os e).map fun r => O.im d :: r
  | _ :: os, some (true, o') :: e => (outs os e).map fun r => o' :: r
  | _, _ => none
def fnden (n : Nat) (den : SDen) : FDen := fun os => match den (env0 os n) with
  | some (.nx m e) => (outs os e).map fun os' => .ok m os' (.im .non)
  | some (.rt m e (.im d)) => (outs os e).map fun os' => .ok m os' (.im d)
  | some (.rt m e (.new o)) => (outs os e).map fun os' => .ok m os' (.new o)
  | some (.rt m e (.bor i o)) => match e[i]? with
    | some (some (false, _)) => (outs os (e.set i none)).map fun os' => .ok m os' (.new o)
    | _ => none
  | some (.er m e x) => (outs os e).map fun os' => .err m os' x
  | _ => none
section
variable {K : KB} {c : Ctx} {F F' H H' : Hp} {σ : L2.St} {e : Env} {ts : List (V × O)}
theorem slot0_eq (o : O) : ∃ b, slot0 o = some (b, o) := by
  cases o <;> exact ⟨_, rfl⟩
theorem slots_none : ∀ (n : Nat) (σ0 : L2.St), Slots (List.replicate n none) (List.replicate n none) σ0 []
  | 0, σ0 => ⟨rfl, rfl⟩
  | n + 1, σ0 => ⟨none, _, rfl, slots_none n _⟩
theorem slots_start : ∀ (vs : List V) (os : List O) (n : Nat) (τ : L2.St), vs.length = os.length → Slots (os.map slot0 ++ List.replicate n none) (vs.map some ++ List.replicate n none) (vs.map some ++ τ) (vs.zip os)
  | [], [], n, τ, _ => slots_none n _
  | v :: vs, o :: os, n, τ, h => by
    obtain ⟨b, hb⟩ := slot0_eq o
    have ih := slots_start vs os n τ (by simpa using h)
    show Slots (slot0 o :: _) (some v :: _) (some v :: _) ((v, o) :: _)
    rw [hb]
    exact ⟨v, _, _, rfl, fun _ => rfl, rfl, ih⟩
  | [], _ :: _, _, _, h => by simp at h
  | _ :: _, [], _, _, h => by simp at h
/-- a slot's holding, taken out -/
theorem RE.take {i : Nat} {o : O} {v : V} (R : RE K c F H σ e ts) (h : e[i]? = some (some (false, o))) (hv : σ[i]? = some (some v)) : RE K c F H σ (e.set i none) ((v, o) :: ts) := by
  obtain ⟨hs, fs, h1, h2, h3, h4⟩ := R.hd
  obtain ⟨v', A, B, k1, k2, _, _⟩ := h1.at i h
  rw [hv] at k2
  cases k2
  have hfree : e.free i = true := by unfold Env.free; rw [h]; rfl
  obtain ⟨A', M, B', k3, _, k5⟩ := h1.put i hfree
  have hset : σ.set i (some v) = σ := by
    have hl : i < σ.length := (List.getElem?_eq_some_iff.mp hv).1
    have := (List.getElem?_eq_some_iff.mp hv).2
    rw [← this]
    exact List.set_getElem_self hl
  have k5' := k5 (some v)
  rw [hset] at k5'
  -- the split is at the same place
  have key : ∀ (e : Env) (σ σ0 : L2.St) (hs : List (V × O)) (i : Nat), Slots e σ σ0 hs → e[i]? = some (some (false, o)) → σ[i]? = some (some v) → ∃ A B, hs = A ++ (v, o) :: B ∧ Slots (e.set i none) σ σ0 (A ++ B) := by
    intro e
    induction e with
    | nil => intro σ σ0 hs i _ he; simp at he
    | cons s e ih =>
      intro σ σ0 hs i hsl he hvv
      cases i with
      | zero =>
        have es : s = some (false, o) := by simpa using he
        subst es
        obtain ⟨w, r, hr, e1, hb, e2, h5⟩ := hsl
        subst e1
        have : w = v := by simpa using hvv
        subst this
        exact ⟨[], hr, e2, some w, r, rfl, h5⟩
      | succ i =>
        cases s with
        | none =>
          obtain ⟨x, r, e1, h5⟩ := hsl
          subst e1
          obtain ⟨A, B, q1, q2⟩ := ih _ _ _ i h5 (by simpa using he) (by simpa using hvv)
          exact ⟨A, B, q1, x, r, rfl, q2⟩
        | some q =>
          obtain ⟨w, r, hr, e1, hb, e2, h5⟩ := hsl
          subst e1
          obtain ⟨A, B, q1, q2⟩ := ih _ _ _ i h5 (by simpa using he) (by simpa using hvv)
          exact ⟨(w, q.2) :: A, B, by rw [e2, q1]; rfl, w, r, _, rfl, hb, rfl, q2⟩
  obtain ⟨A2, B2, q1, q2⟩ := key e σ c.σ0 hs i h1 h hv
  subst q1
  rw [← List.append_assoc] at h2
  obtain ⟨f1, f2, e1, h5, h6⟩ := h2.split
  obtain ⟨g0, g2, e2, h7, h8⟩ := h6
  subst e2
  subst e1
  obtain ⟨g1, g3, e3, h9, h10⟩ := h5.split
  subst e3
  refine ⟨R.g, R.f0, R.fh, R.nw, A2 ++ B2, g0 ++ (g1 ++ (g3 ++ g2)), q2, ⟨g0, _, rfl, h7, Held.join h9 (Held.join h10 h8)⟩, ?_, fun p hp => h4 p ?_⟩
  · have hp : (g0 ++ (g1 ++ (g3 ++ g2))).Perm (g1 ++ g3 ++ (g0 ++ g2)) := by
      rw [show g0 ++ (g1 ++ (g3 ++ g2)) = (g0 ++ (g1 ++ g3)) ++ g2 by simp, show g1 ++ g3 ++ (g0 ++ g2) = ((g1 ++ g3) ++ g0) ++ g2 by simp]
      exact List.Perm.append_right g2 List.perm_append_comm
    exact hp.nodup_iff.mpr h3
  · rcases List.mem_append.mp hp with z | z
    · exact List.mem_append_right _ (List.mem_append_left _ z)
    · rcases List.mem_append.mp z with z | z
      · exact List.mem_append_left _ (List.mem_append_left _ z)
      · rcases List.mem_append.mp z with z | z
        · exact List.mem_append_left _ (List.mem_append_right _ z)
        · exact List.mem_append_right _ (List.mem_append_right _ z)
theorem outs_ok (ef : Ex F F') : ∀ (os : List O) (vs : List V) (e : Env) (σ σ0 : L2.St) (hs : List (V × O)) (fs fz : List Addr) (os' : List O), Slots e σ σ0 hs → Held K F' H' hs fs → vs.length = os.length →
    (∀ (i : Nat) (v : V), vs[i]? = some v → σ0[i]? = some (some v)) → Held K F H (vs.zip os) fz → outs os e = some os' → os'.length = os.length ∧ ∃ fs1, Held K F' H' (vs.zip os') fs1 ∧ fs1.Sublist fs
  | [], [], e, σ, σ0, hs, fs, fz, os', h1, h2, hl, h0, hz, ho => by
    cases e <;> (cases ho; exact ⟨rfl, [], rfl, List.nil_sublist _⟩)
  | o :: os, v :: vs, [], σ, σ0, hs, fs, fz, os', h1, h2, hl, h0, hz, ho => by
    cases o <;> cases ho
  | o :: os, v :: vs, s :: e, σ, σ0, hs, fs, fz, os', h1, h2, hl, h0, hz, ho => by
    obtain ⟨z1, z2, _, hz1, hz2⟩ := hz
    -- the rest of the slots
    have rest : ∃ (σ1 : L2.St) (hs1 : List (V × O)) (f1 f2 : List Addr), Slots e σ1 σ0.tail hs1 ∧ fs = f1 ++ f2 ∧ Held K F' H' hs1 f2 ∧ (∀ b o', s = some (b, o') → ∃ w, (b = true → σ0.head? = some (some w)) ∧ Own K F' H' o' w f1) := by
      cases s with
      | none =>
        obtain ⟨x, r, e1, h3⟩ := h1
        exact ⟨r, hs, [], fs, h3, rfl, h2, fun b o' z => by cases z⟩
      | some q =>
        obtain ⟨w, r, hr, e1, hb, e2, h3⟩ := h1
        subst e2
        obtain ⟨f1, f2, e3, h4, h5⟩ := h2
        exact ⟨r, hr, f1, f2, h3, e3, h5, fun b o' z => by
          cases z
          exact ⟨w, hb, h4⟩⟩
    obtain ⟨σ1, hs1, f1, f2, h3, e3, h4, hown⟩ := rest
    subst e3
    have h0' : ∀ (i : Nat) (v : V), vs[i]? = some v → σ0.tail[i]? = some (some v) := fun i w hw => by
      have := h0 (i + 1) w (by simpa using hw)
      cases σ0 with
      | nil => simp at this
      | cons a b => simpa using this
    have hv0 : σ0.head? = some (some v) := by
      have := h0 0 v rfl
      cases σ0 with
      | nil => simp at this
      | cons a b => simpa using this
    have own_case : ∀ (hb : ∃ o', s = some (true, o') ∧ (outs os e).map (fun r => o' :: r) = some os'), os'.length = (o :: os).length ∧ ∃ fs1, Held K F' H' ((v :: vs).zip os') fs1 ∧ fs1.Sublist (f1 ++ f2) := by
      rintro ⟨o', es, hm⟩
      obtain ⟨r, hr, e5⟩ := Option.map_eq_some_iff.mp hm
      subst e5
      obtain ⟨l1, g, hg, hsub⟩ := outs_ok ef os vs e σ1 σ0.tail hs1 f2 z2 r h3 h4 (by simpa using hl) h0' hz2 hr
      obtain ⟨w, hw, how⟩ := hown true o' es
      have := hw rfl
      rw [hv0] at this
      cases this
      exact ⟨by rw [List.length_cons, List.length_cons, l1], f1 ++ g, ⟨f1, g, rfl, how, hg⟩, List.Sublist.append_left hsub f1⟩
    cases o with
    | im d =>
      obtain ⟨r, hr, e5⟩ := Option.map_eq_some_iff.mp (show (outs os e).map (fun r => O.im d :: r) = some os' from ho)
      subst e5
      obtain ⟨l1, g, hg, hsub⟩ := outs_ok ef os vs e σ1 σ0.tail hs1 f2 z2 r h3 h4 (by simpa using hl) h0' hz2 hr
      exact ⟨by rw [List.length_cons, List.length_cons, l1], g, ⟨[], g, rfl, ⟨rfl, Rep.mono ef _ _ hz1.2⟩, hg⟩, hsub.trans (List.sublist_append_right f1 f2)⟩
    | lst os2 => cases s with
      | none => cases ho
      | some q => obtain ⟨b, o'⟩ := q; cases b with
        | false => cases ho
        | true => exact own_case ⟨o', rfl, ho⟩
    | tup os2 => cases s with
      | none => cases ho
      | some q => obtain ⟨b, o'⟩ := q; cases b with
        | false => cases ho
        | true => exact own_case ⟨o', rfl, ho⟩
    | dct ks os2 => cases s with
      | none => cases ho
      | some q => obtain ⟨b, o'⟩ := q; cases b with
        | false => cases ho
        | true => exact own_case ⟨o', rfl, ho⟩
    | ins C ns os2 => cases s with
      | none => cases ho
      | some q => obtain ⟨b, o'⟩ := q; cases b with
        | false => cases ho
        | true => exact own_case ⟨o', rfl, ho⟩
  | [], v :: vs, e, σ, σ0, hs, fs, fz, os', h1, h2, hl, h0, hz, ho => by simp at hl
  | o :: os, [], e, σ, σ0, hs, fs, fz, os', h1, h2, hl, h0, hz, ho => by simp at hl
end
/-- a def as it stands behind the top, with defaults or without -/
structure Df (K : PySem.W.Frag) (x qual : Str) (st : Stmt) (f : Addr) (fd : FuncData) : Prop where
  ex : ∃ (oc : Value) (od : Option Addr) (dV kV doc pm : Value) (an : Option Addr) (cdv ct : Value) (osl : Array (Option Value)),
    fd = PySem.W.fnOf x qual (defArgs st) (defBody st) (defScope st) dV kV doc pm an cdv ct ∧ K.lookup f = some ⟨oc, od, .func fd, osl⟩ ∧ PySem.W.codeIn K cdv qual = true
  kp : PySem.W.keepIn K (.ref f) = true
theorem df_mk {K : PySem.W.Frag} {x qual : Str} {st : Stmt} {f : Addr} {oc : Value} {od an : Option Addr} {osl : Array (Option Value)} {dV kV doc pm cdv ct : Value} (l : K.lookup f = some ⟨oc, od, .func (PySem.W.fnOf x qual (defArgs st) (defBody st) (defScope st) dV kV doc pm an cdv ct), osl⟩)
    (c : PySem.W.codeIn K cdv qual = true) (k : PySem.W.keepIn K (.ref f) = true) : Df K x qual st f (PySem.W.fnOf x qual (defArgs st) (defBody st) (defScope st) dV kV doc pm an cdv ct) := ⟨⟨oc, od, dV, kV, doc, pm, an, cdv, ct, osl, rfl, l, c⟩, k⟩
/-- THE RULE for a def: what its body's denotation says, it does -/
theorem fn_okD {P : Program} {w : World} {K : PySem.W.Frag} {mg : Str → Option Value} {base : Heap} {x qual : Str} {st : Stmt} {f : Addr} {fd : FuncData} {N ps : List Str} {k : Nat} {den : SDen} (Fn : Df K x qual st f fd) (S : FnScope N ps (defScope st))
    (hb : ∀ (cdv : Value) (A : Around) (outer : List PySem.Env) (s : Shared) (H : Hp) (E : XK), Room k (A.deeper (envOfC qual (defScope st) s.heap.objs.size f cdv)) →
      DSs (cxOf (L2.CX P w) P w K mg base N qual (defScope st) f cdv A outer s H E) (fun cls d _ H' => E cls d H') (defBody st) den) :
    FnOk P w K mg base (L2.CX P w) (k + 1) f fd ps (spD ⟨K, P, w, mg⟩ ps.length (fnden N.length den)) := by
  obtain ⟨oc, od, dV, kV, doc, pm, an, cdv, ct, osl, rfl, lk, hcd⟩ := Fn.ex
  refine fn_of lk hcd S (fun vs H Q E h => h.1) (fun A outer s H vs Q E hr h => ?_)
  refine ⟨rdS ⟨K, P, w, mg⟩ (fun cls d _ H' => E cls d H') den, (hb cdv A outer s H E hr).run, ?_⟩
  obtain ⟨hl, F, os, fs, r, hlo, hh, nd, fr, ef, hf, post⟩ := h
  have hlv : vs.length = os.length := hl.trans hlo.symm
  have hN : ps.length ≤ N.length := by
    have := congrArg List.length S.pre
    rw [List.length_take] at this
    omega
  have hst : L2.start N vs = vs.map some ++ List.replicate (N.length - os.length) none := by rw [← hlv]; rfl
  let c : Ctx := ⟨fun p => if p ∈ fs then none else H p, F, L2.start N vs⟩
  have gin : ∀ p, p ∈ fs → c.G p = none := fun p hp => if_pos hp
  have gout : ∀ p, p ∉ fs → c.G p = H p := fun p hp => if_neg hp
  have R : RE ⟨K, P, w, mg⟩ c F H (L2.start N vs) (env0 os N.length) [] := by
    refine ⟨fun p u z => ?_, Ex.refl _, ef, fun p hp => .inl hp, vs.zip os, fs, ?_, hh, nd, fun p hp => ⟨fr p hp, gin p hp⟩⟩
    · by_cases hp : p ∈ fs
      · rw [gin p hp] at z
        cases z
      · rw [gout p hp] at z
        exact z
    · show Slots _ (L2.start N vs) (L2.start N vs) _
      rw [hst]
      exact slots_start vs os _ _ hlv
  have hσ0 : ∀ (i : Nat) (v : V), vs[i]? = some v → (L2.start N vs)[i]? = some (some v) := fun i v hv => by
    have hi : i < vs.length := (List.getElem?_eq_some_iff.mp hv).1
    unfold L2.start
    rw [List.getElem?_append_left (by rw [List.length_map]; exact hi), List.getElem?_map, hv]
    rfl
  -- what a state at the end says
  have fin : ∀ {F' H' : Hp} {σ' : L2.St} {e' : Env} {ts : List (V × O)} {os' : List O}, RE ⟨K, P, w, mg⟩ c F' H' σ' e' ts → Ex F F' → outs os e' = some os' →
      Ex F' H' ∧ (∀ p u, p ∉ fs → H p = some u → H' p = some u) ∧ (∀ p, F' p ≠ none → F p ≠ none ∨ H p = none ∨ p ∈ fs) ∧ ∃ fs', Held ⟨K, P, w, mg⟩ F' H' (ts ++ vs.zip os') fs' ∧ fs'.Nodup ∧ ∀ p ∈ fs', F' p = none ∧ (p ∈ fs ∨ H p = none) := by
    intro F' H' σ' e' ts os' R' ef' ho
    refine ⟨R'.fh, fun p u hp z => R'.g p u ((gout p hp).trans z), fun p hp => ?_, ?_⟩
    · rcases R'.nw p hp with z | z
      · exact .inl z
      · by_cases hp2 : p ∈ fs
        · exact .inr (.inr hp2)
        · rw [gout p hp2] at z
          exact .inr (.inl z)
    · obtain ⟨hs, ff, h1, h2, h3, h4⟩ := R'.hd
      obtain ⟨f1, f2, e1, h5, h6⟩ := h2.split
      obtain ⟨_, g, hg, hsub⟩ := outs_ok ef' os vs e' σ' (L2.start N vs) hs f2 fs os' h1 h6 hlv hσ0 hh ho
      subst e1
      have sub2 : (f1 ++ g).Sublist (f1 ++ f2) := List.Sublist.append_left hsub f1
      refine ⟨f1 ++ g, Held.join h5 hg, h3.sublist sub2, fun p hp => ?_⟩
      obtain ⟨q1, q2⟩ := h4 p (sub2.subset hp)
      refine ⟨q1, ?_⟩
      by_cases hp2 : p ∈ fs
      · exact .inl hp2
      · rw [gout p hp2] at q2
        exact .inr q2
  refine ⟨c, F, env0 os N.length, [], R, ?_⟩
  unfold fnden at hf
  cases hd : den (env0 os N.length) with
  | none => rw [hd] at hf; cases hf
  | some q =>
    rw [hd] at hf
    refine ⟨q, hd, ?_⟩
    cases q with
    | nx m e1 =>
      obtain ⟨os', ho, e2⟩ := Option.map_eq_some_iff.mp hf
      subst e2
      intro F' H' σ' ef' eh' R'
      obtain ⟨a1, a2, a3, fs', a4, a5, a6⟩ := fin R' ef' ho
      exact post F' H' .non fs' ef' a1 eh' a2 a3 rfl a4 a5 a6
    | rt m e1 rv =>
      cases rv with
      | im d =>
        obtain ⟨os', ho, e2⟩ := Option.map_eq_some_iff.mp hf
        subst e2
        intro F' H' σ' v ef' eh' R'
        obtain ⟨a1, a2, a3, fs', a4, a5, a6⟩ := fin R'.1 ef' ho
        exact post F' H' v fs' ef' a1 eh' a2 a3 R'.2 a4 a5 a6
      | new o =>
        obtain ⟨os', ho, e2⟩ := Option.map_eq_some_iff.mp hf
        subst e2
        intro F' H' σ' v ef' eh' R'
        obtain ⟨a1, a2, a3, fs', a4, a5, a6⟩ := fin (ts := [(v, o)]) R' ef' ho
        exact post F' H' v fs' ef' a1 eh' a2 a3 True.intro a4 a5 a6
      | bor i o =>
        dsimp only at hf
        cases he : e1[i]? with
        | none => rw [he] at hf; cases hf
        | some s =>
          rw [he] at hf
          cases s with
          | none => cases hf
          | some s =>
            obtain ⟨b, o1⟩ := s
            cases b with
            | true => cases hf
            | false =>
              obtain ⟨os', ho, e2⟩ := Option.map_eq_some_iff.mp hf
              subst e2
              intro F' H' σ' v ef' eh' R'
              obtain ⟨R2, hv, b, hb⟩ := R'
              rw [he] at hb
              cases hb
              obtain ⟨a1, a2, a3, fs', a4, a5, a6⟩ := fin (ts := [(v, o)]) (R2.take he hv) ef' ho
              exact post F' H' v fs' ef' a1 eh' a2 a3 True.intro a4 a5 a6
    | bk m e1 => cases hf
    | ct m e1 => cases hf
    | er m e1 x =>
      obtain ⟨os', ho, e2⟩ := Option.map_eq_some_iff.mp hf
      subst e2
      intro F' H' σ' cls d ef' eh' R' hx
      obtain ⟨a1, a2, a3, fs', a4, a5, a6⟩ := fin R' ef' ho
      exact post F' H' cls d fs' ef' a1 eh' a2 a3 hx a4 a5 a6

/-! ### calls -/
section
variable {K : KB} {c : Ctx} {F F' H H' : Hp} {σ : L2.St} {e : Env} {ts : List (V × O)}
/-- behind a call of frozen arguments: a new thing is a temporary -/
theorem RE.called {v : V} {o : O} {fs : List Addr} (R : RE K c F H σ e ts) (ef : Ex F F') (eh : Ex H H') (fh : Ex F' H') (fr : Fresh F H F') (ho : Own K F' H' o v fs) (nd : fs.Nodup) (hn : ∀ p ∈ fs, F' p = none ∧ H p = none) :
    RE K c F' H' σ e ((v, o) :: ts) := by
  have R' := R.grow ef eh fh fr
  obtain ⟨hs0, fs0, h10, h20, h30, h40⟩ := R.hd
  obtain ⟨r1, r2, r3, r4, hs, fs1, h1, h2, h3, h4⟩ := R'
  have th : ∀ p ∈ fs0, H p ≠ none := Held.there h20
  have ff : ∀ p ∈ fs0, F' p = none := fun p hp => by
    cases q : F' p with
    | none => rfl
    | some u =>
      rcases fr p (by rw [q]; simp) with z | z
      · exact absurd (h40 p hp).1 z
      · exact absurd z (th p hp)
  refine ⟨r1, r2, r3, r4, hs0, fs ++ fs0, h10, ⟨fs, fs0, rfl, ho, Held.mono ef (fun q _ w z => eh q w z) h20⟩, List.nodup_append.mpr ⟨nd, h30, fun a ha b hb z => ?_⟩, fun p hp => ?_⟩
  · subst z
    exact th a hb (hn a ha).2
  · rcases List.mem_append.mp hp with z | z
    · exact ⟨(hn p z).1, none_of_ex R.g (hn p z).2⟩
    · exact ⟨ff p z, (h40 p z).2⟩
end
section
variable {X : Cx} {W : WX} {a : Expr} {es : List Expr} {pos p : Pos} {x : Str} {k : Nat} {f C : Addr} {fd : FuncData} {ps : List Str} {fn : FDen} {ds : Den (List D)}
end
end DL

/-! DLF: what the operators are over data. -/
namespace DL
open PySem PySem.Spec PyProof.Rows L2 Evl

theorem ok_of_val {K : KB} {F H : Hp} {d : D} {v : V} {Q : VK} (fh : Ex F H) (hr : Rep K F d v) (k : ∀ F' H' v, Ex F F' → Ex H H' → Ex F' H' → Fresh F H F' → Rep K F' d v → Q v H') : Q v H := k F H v (Ex.refl _) (Ex.refl _) fh Fresh.refl hr
theorem ok_of_int {K : KB} {F H : Hp} {i : Int} {Q : VK} (fh : Ex F H) (k : ∀ F' H' v, Ex F F' → Ex H H' → Ex F' H' → Fresh F H F' → Rep K F' (.int i) v → Q v H') : Q (.int i) H := ok_of_val fh (d := .int i) rfl k
theorem ok_of_str {K : KB} {F H : Hp} {i : Str} {Q : VK} (fh : Ex F H) (k : ∀ F' H' v, Ex F F' → Ex H H' → Ex F' H' → Fresh F H F' → Rep K F' (.str i) v → Q v H') : Q (.str i) H := ok_of_val fh (d := .str i) rfl k
/-- a result that is a new object, frozen -/
theorem ok_of_new {K : KB} {F H : Hp} {d : D} {Q : VK} {o : HO} {p : Addr} (fh : Ex F H) (hp : H p = none) (hr : Rep K (upd F p o) d (.ref p)) (k : ∀ F' H' v, Ex F F' → Ex H H' → Ex F' H' → Fresh F H F' → Rep K F' d v → Q v H') : Q (.ref p) (upd H p o) :=
  k (upd F p o) (upd H p o) (.ref p) (Ex.new (none_of_ex fh hp)) (Ex.new hp) (fun a u z => by
    by_cases q : a = p
    · subst q
      rw [upd_same] at z ⊢
      exact z
    · rw [upd_ne q] at z ⊢
      exact fh a u z) (fun a z => by
    by_cases q : a = p
    · subst q
      exact .inr hp
    · rw [upd_ne q] at z
      exact .inl z) hr

/-! ### arithmetic -/
@[simp] def addD : D → D → Option D
  | .int i, .int j => some (.int (i + j))
  | .str x, .str y => if x.length + y.length ≤ sizeLine then some (.str (x ++ y)) else none
  | .tup xs, .tup ys => if xs.length + ys.length ≤ sizeLine then some (.tup (xs ++ ys)) else none
  | _, _ => none
theorem reps_nil {K : KB} {F : Hp} {ds : List D} (h : Reps K F ds []) : ds = [] := by
  have := h.length
  cases ds with
  | nil => rfl
  | cons _ _ => simp at this
section
variable {X : Cx}
def rAdd3 (K : KB) : R2 := fun x y H Q => rI0 (fun i j => V.int (i + j)) x y H Q ∨ (∃ i j, x = .str i ∧ y = .str j ∧ i.length + j.length ≤ sizeLine ∧ Q (.str (i ++ j)) H) ∨ rCatA K x y H Q
theorem op_add3 : OpR X (binaryOp .Add) (rAdd3 X.B) := op_add.or (op_add_str.or op_catA)
theorem cat_ok {K : KB} {F H : Hp} {xs ys : List V} {ds es : List D} {a b : Addr} (fh : Ex F H) (ha : SqT K F a xs) (hb : SqT K F b ys) (h1 : Reps K F ds xs) (h2 : Reps K F es ys) (hz : ds.length + es.length ≤ sizeLine)
    (Q : VK) (k : ∀ F' H' v, Ex F F' → Ex H H' → Ex F' H' → Fresh F H F' → Rep K F' (.tup (ds ++ es)) v → Q v H') : rCatA K (.ref a) (.ref b) H Q := by
  refine ⟨a, b, xs, ys, rfl, rfl, ex_t fh ha, ex_t fh hb, by rw [← h1.length, ← h2.length]; exact hz, fun e => ?_, fun _ e => ?_, fun _ _ p hp => ?_⟩
  · subst e
    have e2 := reps_nil h1
    subst e2
    exact ok_of_val fh (d := .tup ([] ++ es)) ⟨b, ys, rfl, hb, h2⟩ k
  · subst e
    have e2 := reps_nil h2
    subst e2
    refine ok_of_val fh (d := .tup (ds ++ [])) ?_ k
    rw [List.append_nil]
    exact ⟨a, xs, rfl, ha, h1⟩
  · exact ok_of_new fh hp (d := .tup (ds ++ es)) ⟨p, xs ++ ys, rfl, SqT.of upd_same, Reps.mono (Ex.new (none_of_ex fh hp)) _ _ (h1.append h2)⟩ k
theorem ok_add {K : KB} : OpOk K (rAdd3 K) addD := by
  intro F H x y dx dy d fh h1 h2 hg Q k
  unfold addD at hg
  split at hg
  · cases hg
    exact .inl ⟨_, _, h1, h2, ok_of_int fh k⟩
  · split at hg
    · rename_i hz
      cases hg
      exact .inr (.inl ⟨_, _, h1, h2, hz, ok_of_str fh k⟩)
    · cases hg
  · split at hg
    · rename_i hz
      cases hg
      obtain ⟨a, xs, rfl, ha, hr⟩ := h1
      obtain ⟨b, ys, rfl, hb, hr2⟩ := h2
      exact .inr (.inr (cat_ok fh ha hb hr hr2 hz Q k))
    · cases hg
  · cases hg
@[simp] def subD : D → D → Option D
  | .int i, .int j => some (.int (i - j))
  | _, _ => none
theorem ok_sub {K : KB} : OpOk K (rI0 fun i j => V.int (i - j)) subD := by
  intro F H x y dx dy d fh h1 h2 hg Q k
  unfold subD at hg
  split at hg
  · cases hg
    exact ⟨_, _, h1, h2, ok_of_int fh k⟩
  · cases hg
def mulOk (i j : Int) : Bool := decide (i.natAbs < 2 ^ 64) || decide (j.natAbs < 2 ^ 64) || decide (i.natAbs.log2 + j.natAbs.log2 < 1000000)
@[simp] def mulD : D → D → Option D
  | .int i, .int j => if mulOk i j = true then some (.int (i * j)) else none
  | _, _ => none
def rMul2 : R2 := fun x y H Q => rI CMul (fun i j => V.int (i * j)) x y H Q ∨ rI CMulW (fun i j => V.int (i * j)) x y H Q
theorem op_mul2 : OpR X (binaryOp .Mult) rMul2 := op_mul.or op_mulW
theorem ok_mul {K : KB} : OpOk K rMul2 mulD := by
  intro F H x y dx dy d fh h1 h2 hg Q k
  unfold mulD at hg
  split at hg
  · split at hg
    · rename_i i j hz
      cases hg
      unfold mulOk at hz
      rw [Bool.or_eq_true, Bool.or_eq_true, decide_eq_true_eq, decide_eq_true_eq, decide_eq_true_eq] at hz
      rcases hz with (hz | hz) | hz
      · exact .inl ⟨i, j, h1, h2, .inl (by omega), ok_of_int fh k⟩
      · exact .inl ⟨i, j, h1, h2, .inr (by omega), ok_of_int fh k⟩
      · exact .inr ⟨i, j, h1, h2, hz, ok_of_int fh k⟩
    · cases hg
  · cases hg
def CDivX (i j : Int) : Prop := j ≠ 0 ∧ j.natAbs.log2 < 9000
theorem op_fdivX : OpR X (binaryOp .FloorDiv) (rI CDivX fun i j => .int (i.fdiv j)) := opI fun _ _ _ _ _ _ _ hc q => floordiv_int hc.1 q (.inl (PyProof.noPylong_of_log2 hc.2))
@[simp] def divD : D → D → Option D
  | .int i, .int j => if j ≠ 0 ∧ j.natAbs.log2 < 9000 then some (.int (i.fdiv j)) else none
  | _, _ => none
theorem ok_div {K : KB} : OpOk K (rI CDivX fun i j => .int (i.fdiv j)) divD := by
  intro F H x y dx dy d fh h1 h2 hg Q k
  unfold divD at hg
  split at hg
  · split at hg
    · rename_i i j hz
      cases hg
      exact ⟨i, j, h1, h2, hz, ok_of_int fh k⟩
    · cases hg
  · cases hg
@[simp] def modD : D → D → Option D
  | .int i, .int j => if j ≠ 0 then some (.int (i.fmod j)) else none
  | _, _ => none
theorem ok_mod {K : KB} : OpOk K (rI (fun _ j => j ≠ 0) fun i j => .int (i.fmod j)) modD := by
  intro F H x y dx dy d fh h1 h2 hg Q k
  unfold modD at hg
  split at hg
  · split at hg
    · rename_i i j hz
      cases hg
      exact ⟨i, j, h1, h2, hz, ok_of_int fh k⟩
    · cases hg
  · cases hg
@[simp] def powD : D → D → Option D
  | .int i, .int j => if 0 ≤ j ∧ j ≤ 1000000 ∧ i.natAbs < 2 ^ 64 then some (.int (i ^ j.toNat)) else none
  | _, _ => none
theorem ok_pow {K : KB} : OpOk K (rI CPow fun i j => .int (i ^ j.toNat)) powD := by
  intro F H x y dx dy d fh h1 h2 hg Q k
  unfold powD at hg
  split at hg
  · split at hg
    · rename_i i j hz
      cases hg
      exact ⟨i, j, h1, h2, hz, ok_of_int fh k⟩
    · cases hg
  · cases hg
variable {W : WX} {a b : Expr} {pos : Pos} {da db : Den D}
theorem di_add (ha : DI X W a da) (hb : DI X W b db) : DI X W (.BinOp a .Add b pos) (dbin da db addD) := di_op op_add3 ok_add ha hb
theorem di_sub (ha : DI X W a da) (hb : DI X W b db) : DI X W (.BinOp a .Sub b pos) (dbin da db subD) := di_op op_sub ok_sub ha hb
theorem di_mul (ha : DI X W a da) (hb : DI X W b db) : DI X W (.BinOp a .Mult b pos) (dbin da db mulD) := di_op op_mul2 ok_mul ha hb
theorem di_div (ha : DI X W a da) (hb : DI X W b db) : DI X W (.BinOp a .FloorDiv b pos) (dbin da db divD) := di_op op_fdivX ok_div ha hb
theorem di_mod (ha : DI X W a da) (hb : DI X W b db) : DI X W (.BinOp a .Mod b pos) (dbin da db modD) := di_op op_modN ok_mod ha hb
theorem di_pow (ha : DI X W a da) (hb : DI X W b db) : DI X W (.BinOp a .Pow b pos) (dbin da db powD) := di_op op_pow ok_pow ha hb
@[simp] def negD : D → Option D
  | .int i => some (.int (-i))
  | _ => none
theorem di_neg (ha : DI X W a da) : DI X W (.UnaryOp .USub a pos) (dbind da fun x => dlift (negD x)) := ⟨pe_weak (pe_un un_neg ha.run) fun σ H Q q => by
  obtain ⟨c, F, e, ts, R, q⟩ := q
  refine ⟨c, F, e, ts, R, q.bind (rel := relI) fun F1 H1 e1 x v ef hr q1 => ?_⟩
  obtain ⟨d, hd, k⟩ := q1.lift
  cases x <;> cases hd
  exact ⟨_, hr.2, k F1 H1 _ (Ex.refl _) (Ex.refl _) ⟨hr.1, rfl⟩⟩⟩

/-! ### comparisons -/
@[simp] def ltD : D → D → Option Bool
  | .int i, .int j => some (decide (i < j))
  | .str x, .str y => some (decide (x.cps.toList < y.cps.toList))
  | _, _ => none
def rLt2 : R2 := fun x y H Q => rI0 (fun i j => V.bl (decide (i < j))) x y H Q ∨ (∃ i j, x = .str i ∧ y = .str j ∧ Q (.bl (decide (i.cps.toList < j.cps.toList))) H)
theorem op_lt2 : OpR X (compareOp .Lt) rLt2 := op_lt.or op_lt_str
theorem ok_lt {K : KB} : CmpOk K rLt2 ltD := by
  intro H x y dx dy b h1 h2 hg Q q
  unfold ltD at hg
  split at hg
  · cases hg
    exact .inl ⟨_, _, h1, h2, q⟩
  · cases hg
    exact .inr ⟨_, _, h1, h2, q⟩
  · cases hg
@[simp] def leD : D → D → Option Bool
  | .int i, .int j => some (decide (i ≤ j))
  | _, _ => none
@[simp] def gtD : D → D → Option Bool
  | .int i, .int j => some (decide (j < i))
  | _, _ => none
@[simp] def geD : D → D → Option Bool
  | .int i, .int j => some (decide (j ≤ i))
  | _, _ => none
theorem ok_le {K : KB} : CmpOk K (rI0 fun i j => V.bl (decide (i ≤ j))) leD := by
  intro H x y dx dy b h1 h2 hg Q q
  unfold leD at hg
  split at hg
  · cases hg
    exact ⟨_, _, h1, h2, q⟩
  · cases hg
theorem ok_gt {K : KB} : CmpOk K (rI0 fun i j => V.bl (decide (j < i))) gtD := by
  intro H x y dx dy b h1 h2 hg Q q
  unfold gtD at hg
  split at hg
  · cases hg
    exact ⟨_, _, h1, h2, q⟩
  · cases hg
theorem ok_ge {K : KB} : CmpOk K (rI0 fun i j => V.bl (decide (j ≤ i))) geD := by
  intro H x y dx dy b h1 h2 hg Q q
  unfold geD at hg
  split at hg
  · cases hg
    exact ⟨_, _, h1, h2, q⟩
  · cases hg
theorem ok_eq {K : KB} : CmpOk K (rEqD K) eqD := by
  intro H x y dx dy b h1 h2 hg Q q
  unfold eqD at hg
  split at hg
  · rename_i p1 p2 e1 e2
    split at hg
    · rename_i hs
      cases hg
      rw [Bool.and_eq_true] at hs
      exact ⟨p1, p2, Rep.dp _ _ _ h1 e1, Rep.dp _ _ _ h2 e2, hs.1, hs.2, q⟩
    · cases hg
  · cases hg
@[simp] def neD (a b : D) : Option Bool := (eqD a b).map (!·)
theorem ok_ne {K : KB} : CmpOk K (rNeD K) neD := by
  intro H x y dx dy b h1 h2 hg Q q
  obtain ⟨b', hb, rfl⟩ := Option.map_eq_some_iff.mp hg
  unfold eqD at hb
  split at hb
  · rename_i p1 p2 e1 e2
    split at hb
    · rename_i hs
      cases hb
      rw [Bool.and_eq_true] at hs
      exact ⟨p1, p2, Rep.dp _ _ _ h1 e1, Rep.dp _ _ _ h2 e2, hs.1, hs.2, q⟩
    · cases hb
  · cases hb
/-- x in y -/
def flatD : D → Bool
  | .non => true
  | .bl _ => true
  | .int _ => true
  | .str _ => true
  | _ => false
def toV : D → V
  | .bl b => .bl b
  | .int i => .int i
  | .str x => .str x
  | _ => .non
theorem rep_flat {K : KB} {F : Hp} {d : D} {v : V} (h : Rep K F d v) (f : flatD d = true) : v = toV d ∧ flatV v = true := by
  cases d <;> first | (refine ⟨h, ?_⟩; rw [show v = _ from h]; rfl) | cases f
theorem reps_flat {K : KB} {F : Hp} : ∀ {ds : List D} {xs : List V}, Reps K F ds xs → ds.all flatD = true → xs = ds.map toV ∧ xs.all flatV = true
  | [], xs, h, _ => by rw [show xs = [] from h]; exact ⟨rfl, rfl⟩
  | d :: ds, xs, h, f => by
    obtain ⟨x, r, rfl, h1, h2⟩ := h
    rw [List.all_cons, Bool.and_eq_true] at f
    obtain ⟨e1, f1⟩ := rep_flat h1 f.1
    obtain ⟨e2, f2⟩ := reps_flat h2 f.2
    exact ⟨by rw [List.map_cons, ← e1, ← e2], by rw [List.all_cons, f1, f2]; rfl⟩
def inD : D → D → Option Bool
  | d, .lst ds => match d.py, D.pys ds with
    | some p, some ps => if SeqAt.shaped p && SeqAt.shaped (.list ps) then some (ps.any fun z => PyData.eqv z p) else none
    | _, _ => none
  | d, .scr ds => match d.py, D.pys ds with
    | some p, some ps => if SeqAt.shaped p && SeqAt.shaped (.list ps) then some (ps.any fun z => PyData.eqv z p) else none
    | _, _ => none
  | d, .tup ds => if flatD d && ds.all flatD then some (inV (toV d) (ds.map toV)) else none
  | d, .wtp ds => if flatD d && ds.all flatD then some (inV (toV d) (ds.map toV)) else none
  | .str i, .str j => some (!(Builtin.Str.occurrences j i 0 j.length 1).isEmpty)
  | _, _ => none
def rIn3 (K : KB) : R2 := fun x y H Q => rInD K x y H Q ∨ rIn K false x y H Q ∨ (∃ i j, x = .str i ∧ y = .str j ∧ Q (.bl (!(Builtin.Str.occurrences j i 0 j.length 1).isEmpty)) H)
theorem op_in3 (hu : X.A.units + 65 < cLine) : OpR X (compareOp .In) (rIn3 X.B) := (op_inD hu).or (op_in_seq.or op_in_str)
theorem ok_in {K : KB} : CmpOk K (rIn3 K) inD := by
  intro H x y dx dy b h1 h2 hg Q q
  unfold inD at hg
  split at hg
  · obtain ⟨a, xs, rfl, ha, hr⟩ := id h2
    split at hg
    · rename_i p1 p2 e1 e2
      split at hg
      · rename_i hs
        cases hg
        rw [Bool.and_eq_true] at hs
        exact .inl ⟨p1, p2, Rep.dp _ _ _ h1 e1, .lst (SqL.of ha) (Reps.dp _ _ _ hr e2), hs.1, hs.2, q⟩
      · cases hg
    · cases hg
  · obtain ⟨a, xs, rfl, ha, hr⟩ := id h2
    split at hg
    · rename_i p1 p2 e1 e2
      split at hg
      · rename_i hs
        cases hg
        rw [Bool.and_eq_true] at hs
        exact .inl ⟨p1, p2, Rep.dp _ _ _ h1 e1, .lst ha (Reps.dp _ _ _ hr e2), hs.1, hs.2, q⟩
      · cases hg
    · cases hg
  · obtain ⟨a, xs, rfl, ha, hr⟩ := id h2
    split at hg
    · rename_i hs
      cases hg
      rw [Bool.and_eq_true] at hs
      obtain ⟨e1, f1⟩ := rep_flat h1 hs.1
      obtain ⟨e2, f2⟩ := reps_flat hr hs.2
      refine .inr (.inl ⟨a, xs, rfl, .inr ha, f1, f2, ?_⟩)
      rw [if_neg Bool.false_ne_true, e1, e2]
      exact q
    · cases hg
  · obtain ⟨a, xs, rfl, ha, hr⟩ := id h2
    split at hg
    · rename_i hs
      cases hg
      rw [Bool.and_eq_true] at hs
      obtain ⟨e1, f1⟩ := rep_flat h1 hs.1
      obtain ⟨e2, f2⟩ := reps_flat hr hs.2
      refine .inr (.inl ⟨a, xs, rfl, .inr ha, f1, f2, ?_⟩)
      rw [if_neg Bool.false_ne_true, e1, e2]
      exact q
    · cases hg
  · cases hg
    exact .inr (.inr ⟨_, _, h1, h2, q⟩)
  · cases hg
def rNotIn3 (K : KB) : R2 := fun x y H Q => rNotInD K x y H Q ∨ rIn K true x y H Q ∨ (∃ i j, x = .str i ∧ y = .str j ∧ Q (.bl (!(!(Builtin.Str.occurrences j i 0 j.length 1).isEmpty))) H)
theorem op_notin3 (hu : X.A.units + 65 < cLine) : OpR X (compareOp .NotIn) (rNotIn3 X.B) := (op_notInD hu).or (op_notIn_seq.or op_notin_str)
@[simp] def notinD (a b : D) : Option Bool := (inD a b).map (!·)
theorem ok_notin {K : KB} : CmpOk K (rNotIn3 K) notinD := by
  intro H x y dx dy b h1 h2 hg' Q q
  obtain ⟨b', hg, rfl⟩ := Option.map_eq_some_iff.mp hg'
  unfold inD at hg
  split at hg
  · obtain ⟨a, xs, rfl, ha, hr⟩ := id h2
    split at hg
    · rename_i p1 p2 e1 e2
      split at hg
      · rename_i hs
        cases hg
        rw [Bool.and_eq_true] at hs
        exact .inl ⟨p1, p2, Rep.dp _ _ _ h1 e1, .lst (SqL.of ha) (Reps.dp _ _ _ hr e2), hs.1, hs.2, q⟩
      · cases hg
    · cases hg
  · obtain ⟨a, xs, rfl, ha, hr⟩ := id h2
    split at hg
    · rename_i p1 p2 e1 e2
      split at hg
      · rename_i hs
        cases hg
        rw [Bool.and_eq_true] at hs
        exact .inl ⟨p1, p2, Rep.dp _ _ _ h1 e1, .lst ha (Reps.dp _ _ _ hr e2), hs.1, hs.2, q⟩
      · cases hg
    · cases hg
  · obtain ⟨a, xs, rfl, ha, hr⟩ := id h2
    split at hg
    · rename_i hs
      cases hg
      rw [Bool.and_eq_true] at hs
      obtain ⟨e1, f1⟩ := rep_flat h1 hs.1
      obtain ⟨e2, f2⟩ := reps_flat hr hs.2
      refine .inr (.inl ⟨a, xs, rfl, .inr ha, f1, f2, ?_⟩)
      rw [if_pos rfl, e1, e2]
      exact q
    · cases hg
  · obtain ⟨a, xs, rfl, ha, hr⟩ := id h2
    split at hg
    · rename_i hs
      cases hg
      rw [Bool.and_eq_true] at hs
      obtain ⟨e1, f1⟩ := rep_flat h1 hs.1
      obtain ⟨e2, f2⟩ := reps_flat hr hs.2
      refine .inr (.inl ⟨a, xs, rfl, .inr ha, f1, f2, ?_⟩)
      rw [if_pos rfl, e1, e2]
      exact q
    · cases hg
  · cases hg
    exact .inr (.inr ⟨_, _, h1, h2, q⟩)
  · cases hg
@[simp] def isNoneD (d : D) : Bool := match d with
  | .non => true
  | _ => false
@[simp] def noneD : D → Option D
  | .any => none
  | d => some (.bl (isNoneD d))
@[simp] def notNoneD : D → Option D
  | .any => none
  | d => some (.bl (!isNoneD d))
variable {j : Nat} {p2 : Pos}
end
end DL

/-! DLG: what is owned, lent to a def; loops over what is owned. -/
namespace DL
open PySem PySem.Spec PyProof.Rows L2 Evl

section
variable {K : KB} {c : Ctx} {F F' H H' : Hp} {σ : L2.St} {e : Env} {ts : List (V × O)}
/-- a slot's holding, out and in again -/
theorem Slots.out : ∀ (e : Env) (σ σ0 : L2.St) (hs : List (V × O)) (i : Nat) {b : Bool} {o : O}, Slots e σ σ0 hs → e[i]? = some (some (b, o)) →
    ∃ v A B, hs = A ++ (v, o) :: B ∧ σ[i]? = some (some v) ∧ (b = true → σ0[i]? = some (some v)) ∧ Slots (e.set i none) σ σ0 (A ++ B)
  | [], σ, σ0, hs, i, b, o, h, he => by simp at he
  | none :: e, σ, σ0, hs, 0, b, o, h, he => by simp at he
  | some q :: e, σ, σ0, hs, 0, b, o, h, he => by
    obtain ⟨v, r, hr, e1, hb, e2, h1⟩ := h
    have eq : q = (b, o) := by simpa using he
    subst eq
    subst e1
    refine ⟨v, [], hr, e2, rfl, fun z => ?_, some v, r, rfl, h1⟩
    have z' := hb z
    cases σ0 with
    | nil => simp at z'
    | cons y ys => simpa using z'
  | none :: e, σ, σ0, hs, i + 1, b, o, h, he => by
    obtain ⟨x, r, e1, h1⟩ := h
    subst e1
    obtain ⟨v, A, B, k1, k2, k3, k4⟩ := Slots.out e r σ0.tail hs i h1 (by simpa using he)
    refine ⟨v, A, B, k1, by simpa using k2, fun z => ?_, x, r, rfl, k4⟩
    have z' := k3 z
    cases σ0 with
    | nil => simp at z'
    | cons y ys => simpa using z'
  | some q :: e, σ, σ0, hs, i + 1, b, o, h, he => by
    obtain ⟨v0, r, hr, e1, hb, e2, h1⟩ := h
    subst e1
    obtain ⟨v, A, B, k1, k2, k3, k4⟩ := Slots.out e r σ0.tail hr i h1 (by simpa using he)
    refine ⟨v, (v0, q.2) :: A, B, by rw [e2, k1]; rfl, by simpa using k2, fun z => ?_, v0, r, A ++ B, rfl, hb, rfl, k4⟩
    have z' := k3 z
    cases σ0 with
    | nil => simp at z'
    | cons y ys => simpa using z'
theorem Slots.inn : ∀ (e : Env) (σ σ0 : L2.St) (hs : List (V × O)) (i : Nat) {b : Bool} {v : V}, Slots e σ σ0 hs → e[i]? = some none → σ[i]? = some (some v) → (b = true → σ0[i]? = some (some v)) →
    ∃ A B, hs = A ++ B ∧ ∀ o, Slots (e.set i (some (b, o))) σ σ0 (A ++ (v, o) :: B)
  | [], σ, σ0, hs, i, b, v, h, he, hv, hb => by simp at he
  | none :: e, σ, σ0, hs, 0, b, v, h, he, hv, hb => by
    obtain ⟨x, r, e1, h1⟩ := h
    subst e1
    have ex : x = some v := by simpa using hv
    subst ex
    exact ⟨[], hs, rfl, fun o => ⟨v, r, hs, rfl, fun z => by
      have z' := hb z
      cases σ0 with
      | nil => simp at z'
      | cons y ys => simpa using z', rfl, h1⟩⟩
  | some q :: e, σ, σ0, hs, 0, b, v, h, he, hv, hb => by simp at he
  | none :: e, σ, σ0, hs, i + 1, b, v, h, he, hv, hb => by
    obtain ⟨x, r, e1, h1⟩ := h
    subst e1
    obtain ⟨A, B, k1, k2⟩ := Slots.inn e r σ0.tail hs i h1 (by simpa using he) (by simpa using hv) (fun z => by
      have z' := hb z
      cases σ0 with
      | nil => simp at z'
      | cons y ys => simpa using z')
    exact ⟨A, B, k1, fun o => ⟨x, r, rfl, k2 o⟩⟩
  | some q :: e, σ, σ0, hs, i + 1, b, v, h, he, hv, hb => by
    obtain ⟨v0, r, hr, e1, hb0, e2, h1⟩ := h
    subst e1
    obtain ⟨A, B, k1, k2⟩ := Slots.inn e r σ0.tail hr i h1 (by simpa using he) (by simpa using hv) (fun z => by
      have z' := hb z
      cases σ0 with
      | nil => simp at z'
      | cons y ys => simpa using z')
    exact ⟨(v0, q.2) :: A, B, by rw [e2, k1]; rfl, fun o => ⟨v0, r, _, rfl, hb0, rfl, k2 o⟩⟩
theorem perm_out {α : Type} (a b c d : List α) : (b ++ (a ++ (c ++ d))).Perm (a ++ (c ++ (b ++ d))) := by
  rw [show b ++ (a ++ (c ++ d)) = (b ++ (a ++ c)) ++ d by simp, show a ++ (c ++ (b ++ d)) = ((a ++ c) ++ b) ++ d by simp]
  exact List.Perm.append_right d List.perm_append_comm
theorem RE.out {i : Nat} {b : Bool} {o : O} (R : RE K c F H σ e ts) (h : e[i]? = some (some (b, o))) : ∃ v, σ[i]? = some (some v) ∧ (b = true → c.σ0[i]? = some (some v)) ∧ RE K c F H σ (e.set i none) ((v, o) :: ts) := by
  obtain ⟨hs, fs, h1, h2, h3, h4⟩ := R.hd
  obtain ⟨v, A, B, k1, k2, k3, k4⟩ := Slots.out e σ c.σ0 hs i h1 h
  subst k1
  obtain ⟨f1, f2, e1, h5, h6⟩ := h2.split
  obtain ⟨f3, f4, e2, h7, h8⟩ := h6.split
  obtain ⟨f5, f6, e3, h9, h10⟩ := h8
  subst e3
  subst e2
  subst e1
  have hp := perm_out f1 f5 f3 f6
  refine ⟨v, k2, k3, R.g, R.f0, R.fh, R.nw, A ++ B, f5 ++ (f1 ++ (f3 ++ f6)), k4, ⟨f5, _, rfl, h9, Held.join h5 (Held.join h7 h10)⟩, hp.nodup_iff.mpr h3, fun p hp2 => h4 p (hp.mem_iff.mp hp2)⟩
theorem RE.inn {i : Nat} {b : Bool} {o : O} {v : V} (R : RE K c F H σ e ((v, o) :: ts)) (h : e[i]? = some none) (hv : σ[i]? = some (some v)) (hb : b = true → c.σ0[i]? = some (some v)) : RE K c F H σ (e.set i (some (b, o))) ts := by
  obtain ⟨hs, fs, h1, h2, h3, h4⟩ := R.hd
  obtain ⟨A, B, k1, k2⟩ := Slots.inn e σ c.σ0 hs i h1 h hv hb
  subst k1
  obtain ⟨f5, fr, e1, h9, hr⟩ := h2
  obtain ⟨f1, f2, e2, h5, h6⟩ := Held.split (A := ts) (B := A ++ B) hr
  obtain ⟨f3, f6, e3, h7, h10⟩ := h6.split
  subst e3
  subst e2
  subst e1
  have hp := perm_out f1 f5 f3 f6
  refine ⟨R.g, R.f0, R.fh, R.nw, _, f1 ++ (f3 ++ (f5 ++ f6)), k2 o, Held.join h5 (Held.join h7 ⟨f5, f6, rfl, h9, h10⟩), hp.nodup_iff.mp h3, fun p hp2 => h4 p (hp.mem_iff.mpr hp2)⟩
/-- a slot is emptied -/
theorem RE.clear {i : Nat} {b : Bool} {o : O} (R : RE K c F H σ e ts) (h : e[i]? = some (some (b, o))) : RE K c F H σ (e.set i none) ts := by
  obtain ⟨v, _, _, R'⟩ := R.out h
  exact R'.drop
theorem held_ims : ∀ {os : List O} {vs : List V} {fs : List Addr}, (∀ o ∈ os, ∃ d, o = O.im d) → Held K F H (vs.zip os) fs → fs = []
  | [], vs, fs, k, h => by cases vs <;> exact h
  | o :: os, [], fs, k, h => h
  | o :: os, v :: vs, fs, k, h => by
    obtain ⟨d, rfl⟩ := k o List.mem_cons_self
    obtain ⟨f1, f2, e1, h1, h2⟩ := h
    rw [e1, h1.1, held_ims (fun o ho => k o (List.mem_cons_of_mem _ ho)) h2]
    rfl
/-- what a def is handed stands ahead of the temporaries -/
theorem RE.callee {n : Nat} {f : FDen} {vs : List V} {os : List O} {r : FRes} {Q : VK} {E : XK} (R : RE K c F H σ e (vs.zip os ++ ts)) (hv : vs.length = n) (ho : os.length = n) (hf : f os = some r)
    (post : match r with
      | .ok m os' rv => ∀ F' H' v, Ex F F' → (m = false ∨ (∀ o ∈ os, ∃ d, o = O.im d) → Ex H H') → RE K c F' H' σ e (frvs rv v ++ vs.zip os' ++ ts) → FRep K F' rv v → Q v H'
      | .err m os' x => ∀ F' H' cls d, Ex F F' → (m = false ∨ (∀ o ∈ os, ∃ d, o = O.im d) → Ex H H') → RE K c F' H' σ e (vs.zip os' ++ ts) → XRel K F' H' x cls d → E cls d H') : spD K n f vs H Q E := by
  obtain ⟨hs, fs, h1, h2, h3, h4⟩ := R.hd
  rw [List.append_assoc] at h2
  obtain ⟨f1, f2, e1, h5, h6⟩ := h2.split
  subst e1
  obtain ⟨n1, n2, n3⟩ := List.nodup_append.mp h3
  have th2 : ∀ p ∈ f2, H p ≠ none := Held.there h6
  have none1 : (∀ o ∈ os, ∃ d, o = O.im d) → f1 = [] := fun k => held_ims k h5
  have whole : ∀ {H' : Hp} {m : Bool}, (m = false → Ex H H') → (∀ p u, p ∉ f1 → H p = some u → H' p = some u) → (m = false ∨ (∀ o ∈ os, ∃ d, o = O.im d) → Ex H H') := fun eh keep z => by
    rcases z with z | z
    · exact eh z
    · have e0 := none1 z
      exact fun p u q => keep p u (by rw [e0]; exact fun w => nomatch w) q
  have core : ∀ {F' H' : Hp} {L : List (V × O)} {fs' : List Addr}, Ex F F' → Ex F' H' → (∀ p u, p ∉ f1 → H p = some u → H' p = some u) → (∀ p, F' p ≠ none → F p ≠ none ∨ H p = none ∨ p ∈ f1) → Held K F' H' L fs' → fs'.Nodup → (∀ p ∈ fs', F' p = none ∧ (p ∈ f1 ∨ H p = none)) →
      RE K c F' H' σ e (L ++ ts) := by
    intro F' H' L fs' ef fh keep nw hh nd hfs
    have out2 : ∀ p ∈ f2, p ∉ f1 := fun p hp hp1 => n3 p hp1 p hp rfl
    refine ⟨fun p u z => keep p u (fun hp => ?_) (R.g p u z), R.f0.trans ef, fh, fun p hp => ?_, hs, fs' ++ f2, h1, ?_, List.nodup_append.mpr ⟨nd, n2, fun a ha b hb z => ?_⟩, fun p hp => ?_⟩
    · rw [(h4 p (List.mem_append_left _ hp)).2] at z
      cases z
    · rcases nw p hp with z | z | z
      · exact R.nw p z
      · exact .inr (none_of_ex R.g z)
      · exact .inr (h4 p (List.mem_append_left _ z)).2
    · rw [List.append_assoc]
      exact Held.join hh (Held.mono ef (fun p hp u z => keep p u (out2 p hp) z) h6)
    · subst z
      rcases (hfs a ha).2 with z | z
      · exact out2 a hb z
      · exact th2 a hb z
    · rcases List.mem_append.mp hp with z | z
      · refine ⟨(hfs p z).1, ?_⟩
        rcases (hfs p z).2 with w | w
        · exact (h4 p (List.mem_append_left _ w)).2
        · exact none_of_ex R.g w
      · obtain ⟨q1, q2⟩ := h4 p (List.mem_append_right _ z)
        refine ⟨?_, q2⟩
        cases q : F' p with
        | none => rfl
        | some u =>
          rcases nw p (by rw [q]; simp) with w | w | w
          · exact absurd q1 w
          · exact absurd w (th2 p z)
          · exact absurd w (out2 p z)
  refine ⟨hv, F, os, f1, r, ho, h5, n1, fun p hp => (h4 p (List.mem_append_left _ hp)).1, R.fh, hf, ?_⟩
  cases r with
  | ok m os' rv =>
    intro F' H' v fs' ef fh eh keep nw hrep hh nd hfs
    exact post F' H' v ef (whole eh keep) (core ef fh keep nw hh nd hfs) hrep
  | err m os' x =>
    intro F' H' cls d fs' ef fh eh keep nw hx hh nd hfs
    exact post F' H' cls d ef (whole eh keep) (core ef fh keep nw hh nd hfs) hx
end

/-! ### arguments: frozen ones, lent slots -/
inductive AR where
  | im (d : D) | bor (i : Nat)
def ARel (K : KB) (F : Hp) (σ : L2.St) : List AR → List V → Prop
  | [], vs => vs = []
  | .im d :: as, vs => ∃ v r, vs = v :: r ∧ Rep K F d v ∧ ARel K F σ as r
  | .bor i :: as, vs => ∃ v r, vs = v :: r ∧ σ[i]? = some (some v) ∧ ARel K F σ as r
def relAR : Rel (List AR) (List V) := fun K c F H σ e ts as vs => RE K c F H σ e ts ∧ ARel K F σ as vs
theorem ARel.mono {K : KB} {F F' : Hp} {σ : L2.St} (ef : Ex F F') : ∀ {as : List AR} {vs : List V}, ARel K F σ as vs → ARel K F' σ as vs
  | [], vs, h => h
  | .im d :: as, vs, h => by
    obtain ⟨v, r, e1, h1, h2⟩ := h
    exact ⟨v, r, e1, Rep.mono ef _ _ h1, ARel.mono ef h2⟩
  | .bor i :: as, vs, h => by
    obtain ⟨v, r, e1, h1, h2⟩ := h
    exact ⟨v, r, e1, h1, ARel.mono ef h2⟩
theorem ARel.length {K : KB} {F : Hp} {σ : L2.St} : ∀ {as : List AR} {vs : List V}, ARel K F σ as vs → vs.length = as.length
  | [], vs, h => by rw [show vs = [] from h]; rfl
  | .im d :: as, vs, h => by
    obtain ⟨v, r, rfl, h1, h2⟩ := h
    rw [List.length_cons, List.length_cons, ARel.length h2]
  | .bor i :: as, vs, h => by
    obtain ⟨v, r, rfl, h1, h2⟩ := h
    rw [List.length_cons, List.length_cons, ARel.length h2]
/-- what the def is handed; the slots that are lent are empty meanwhile -/
def lend : List AR → Env → Option (List O × List (Option (Nat × Bool)) × Env)
  | [], e => some ([], [], e)
  | .im d :: as, e => (lend as e).map fun r => (.im d :: r.1, none :: r.2.1, r.2.2)
  | .bor i :: as, e => match lend as e with
    | some r => match r.2.2[i]? with
      | some (some (b, o)) => some (o :: r.1, some (i, b) :: r.2.1, r.2.2.set i none)
      | _ => none
    | none => none
def unlend : List (Option (Nat × Bool)) → List O → Env → Option Env
  | [], [], e => some e
  | none :: ks, _ :: os, e => unlend ks os e
  | some (i, b) :: ks, o :: os, e => match e[i]? with
    | some none => unlend ks os (e.set i (some (b, o)))
    | _ => none
  | _, _, _ => none
section
variable {K : KB} {c : Ctx} {F F' H H' : Hp} {σ : L2.St}
/-- the slots that are lent stand for what is at hand -/
def Lent (c : Ctx) (σ : L2.St) : List (Option (Nat × Bool)) → List V → Prop
  | [], vs => vs = []
  | none :: ks, vs => ∃ v r, vs = v :: r ∧ Lent c σ ks r
  | some (i, b) :: ks, vs => ∃ v r, vs = v :: r ∧ σ[i]? = some (some v) ∧ (b = true → c.σ0[i]? = some (some v)) ∧ Lent c σ ks r
theorem RE.lend {ts : List (V × O)} : ∀ {as : List AR} {vs : List V} {e : Env} {os : List O} {ks : List (Option (Nat × Bool))} {e' : Env}, RE K c F H σ e ts → ARel K F σ as vs → DL.lend as e = some (os, ks, e') →
    RE K c F H σ e' (vs.zip os ++ ts) ∧ os.length = as.length ∧ Lent c σ ks vs
  | [], vs, e, os, ks, e', R, h, hl => by
    cases hl
    rw [show vs = [] from h]
    exact ⟨R, rfl, rfl⟩
  | .im d :: as, vs, e, os, ks, e', R, h, hl => by
    obtain ⟨v, r, rfl, h1, h2⟩ := h
    obtain ⟨q, hq, e1⟩ := Option.map_eq_some_iff.mp hl
    obtain ⟨os1, ks1, e2⟩ := q
    cases e1
    obtain ⟨R1, l1, k1⟩ := RE.lend R h2 hq
    refine ⟨?_, by rw [List.length_cons, List.length_cons, l1], v, r, rfl, k1⟩
    obtain ⟨hs, fs, a1, a2, a3, a4⟩ := R1.hd
    exact ⟨R1.g, R1.f0, R1.fh, R1.nw, hs, fs, a1, ⟨[], fs, rfl, ⟨rfl, h1⟩, a2⟩, a3, a4⟩
  | .bor i :: as, vs, e, os, ks, e', R, h, hl => by
    obtain ⟨v, r, rfl, h1, h2⟩ := h
    unfold DL.lend at hl
    cases hq : DL.lend as e with
    | none => rw [hq] at hl; cases hl
    | some q =>
      rw [hq] at hl
      obtain ⟨os1, ks1, e2⟩ := q
      obtain ⟨R1, l1, k1⟩ := RE.lend R h2 hq
      dsimp only at hl
      cases hi : e2[i]? with
      | none => rw [hi] at hl; cases hl
      | some s =>
        rw [hi] at hl
        cases s with
        | none => cases hl
        | some s =>
          obtain ⟨b, o⟩ := s
          cases hl
          obtain ⟨w, hw, hb, R2⟩ := R1.out hi
          rw [h1] at hw
          cases hw
          exact ⟨R2, by rw [List.length_cons, List.length_cons, l1], v, r, rfl, h1, hb, k1⟩
theorem RE.unlend {ts : List (V × O)} : ∀ {ks : List (Option (Nat × Bool))} {vs : List V} {os : List O} {e e' : Env}, RE K c F H σ e (vs.zip os ++ ts) → Lent c σ ks vs → DL.unlend ks os e = some e' → RE K c F H σ e' ts
  | [], vs, [], e, e', R, h, hu => by
    cases hu
    rw [show vs = [] from h] at R
    exact R
  | none :: ks, vs, o :: os, e, e', R, h, hu => by
    obtain ⟨v, r, rfl, h1⟩ := h
    exact RE.unlend (RE.drop (t := (v, o)) R) h1 hu
  | some (i, b) :: ks, vs, o :: os, e, e', R, h, hu => by
    obtain ⟨v, r, rfl, h1, hb, h2⟩ := h
    unfold DL.unlend at hu
    cases hi : e[i]? with
    | none => rw [hi] at hu; cases hu
    | some s =>
      rw [hi] at hu
      cases s with
      | some s => cases hu
      | none => exact RE.unlend (RE.inn (v := v) (o := o) R hi h1 hb) h2 hu
  | [], vs, o :: os, e, e', R, h, hu => by cases hu
  | none :: ks, vs, [], e, e', R, h, hu => by cases hu
  | some (i, b) :: ks, vs, [], e, e', R, h, hu => by cases hu
/-- temporaries change places -/
theorem RE.perm {e : Env} {ts ts' : List (V × O)} (R : RE K c F H σ e ts) (p : ts.Perm ts') : RE K c F H σ e ts' := by
  obtain ⟨hs, fs, h1, h2, h3, h4⟩ := R.hd
  have key : ∀ {A B : List (V × O)}, A.Perm B → ∀ {fs : List Addr}, Held K F H A fs → ∃ fs', Held K F H B fs' ∧ fs.Perm fs' := by
    intro A B p
    induction p with
    | nil => intro fs h; exact ⟨fs, h, .refl _⟩
    | cons x _ ih =>
      intro fs h
      obtain ⟨f1, f2, e1, a1, a2⟩ := h
      obtain ⟨f3, b1, b2⟩ := ih a2
      exact ⟨f1 ++ f3, ⟨f1, f3, rfl, a1, b1⟩, by rw [e1]; exact List.Perm.append_left f1 b2⟩
    | swap x y l =>
      intro fs h
      obtain ⟨f1, f2, e1, a1, f3, f4, e2, a2, a3⟩ := h
      refine ⟨f3 ++ (f1 ++ f4), ⟨f3, _, rfl, a2, f1, f4, rfl, a1, a3⟩, ?_⟩
      rw [e1, e2, ← List.append_assoc, ← List.append_assoc]
      exact List.Perm.append_right f4 List.perm_append_comm
    | trans _ _ ih1 ih2 =>
      intro fs h
      obtain ⟨f1, a1, a2⟩ := ih1 h
      obtain ⟨f2, b1, b2⟩ := ih2 a1
      exact ⟨f2, b1, a2.trans b2⟩
  obtain ⟨fs', k1, k2⟩ := key (List.Perm.append_right hs p) h2
  exact ⟨R.g, R.f0, R.fh, R.nw, hs, fs', h1, k1, k2.nodup_iff.mp h3, fun p hp => h4 p (k2.mem_iff.mpr hp)⟩
end
/-- frozen all -/
@[simp] def allIm : List O → Bool
  | [] => true
  | .im _ :: os => allIm os
  | _ => false
theorem allIm_ok : ∀ {os : List O}, allIm os = true → ∀ o ∈ os, ∃ d, o = O.im d
  | [], _, o, ho => by cases ho
  | .im d :: os, h, o, ho => by
    rcases List.mem_cons.mp ho with e | ho
    · exact ⟨d, e⟩
    · exact allIm_ok (os := os) h o ho
  | .lst _ :: _, h, _, _ => by cases h
  | .tup _ :: _, h, _, _ => by cases h
  | .dct _ _ :: _, h, _, _ => by cases h
  | .ins _ _ _ :: _, h, _, _ => by cases h
/-- a called def, of any arguments -/
def dfnA (n : Nat) (f : FDen) (as : List AR) : Den Rv := fun e => if as.length = n then (match lend as e with
  | some (os, ks, e1) => match f os with
    | some (.ok m os' (.im d)) => (unlend ks os' e1).map fun e2 => .ok (m && !allIm os) e2 (.im d)
    | some (.ok m os' (.new o)) => (unlend ks os' e1).map fun e2 => .ok (m && !allIm os) e2 (.new o)
    | some (.err m os' x) => (unlend ks os' e1).map fun e2 => .err (m && !allIm os) e2 x
    | none => none
  | none => none) else none
theorem and_allIm {m : Bool} {os : List O} (h : (m && !allIm os) = false) : m = false ∨ ∀ o ∈ os, ∃ d, o = O.im d := by
  cases m with
  | false => exact .inl rfl
  | true =>
    refine .inr (allIm_ok ?_)
    cases q : allIm os with
    | true => rfl
    | false => rw [q] at h; cases h
theorem spD_ofA {K : KB} {c : Ctx} {F H : Hp} {σ : L2.St} {e : Env} {ts : List (V × O)} {W : WX} {n : Nat} {f : FDen} {as : List AR} {vs : List V} {Q : VK} (R : RE K c F H σ e ts) (hr : ARel K F σ as vs) (q : At relR K W (dfnA n f as) c F σ e ts H Q) :
    spD K n f vs H Q (fun cls d H' => W cls d σ H') := by
  obtain ⟨r, hr2, post⟩ := q
  unfold dfnA at hr2
  split at hr2
  · rename_i hn
    cases hl : lend as e with
    | none => rw [hl] at hr2; cases hr2
    | some q =>
      rw [hl] at hr2
      obtain ⟨os, ks, e1⟩ := q
      obtain ⟨R1, l1, k1⟩ := R.lend hr hl
      dsimp only at hr2
      cases hf : f os with
      | none => rw [hf] at hr2; cases hr2
      | some fr =>
        rw [hf] at hr2
        refine R1.callee (hr.length.trans hn) (l1.trans hn) hf ?_
        cases fr with
        | ok m os' rv =>
          intro F' H' v ef eh R2 hrep
          cases rv with
          | im d =>
            obtain ⟨e2, hu, e3⟩ := Option.map_eq_some_iff.mp hr2
            subst e3
            exact post F' H' v ef (fun z => eh (and_allIm z)) ⟨RE.unlend R2 k1 hu, hrep⟩
          | new o =>
            obtain ⟨e2, hu, e3⟩ := Option.map_eq_some_iff.mp hr2
            subst e3
            have R3 : RE K c F' H' σ e1 (vs.zip os' ++ ((v, o) :: ts)) := R2.perm (by
              show ((v, o) :: (vs.zip os' ++ ts)).Perm _
              exact (List.perm_middle).symm)
            exact post F' H' v ef (fun z => eh (and_allIm z)) (RE.unlend R3 k1 hu)
        | err m os' x =>
          intro F' H' cls d ef eh R2 hx
          obtain ⟨e2, hu, e3⟩ := Option.map_eq_some_iff.mp hr2
          subst e3
          exact post F' H' cls d ef (fun z => eh (and_allIm z)) (RE.unlend R2 k1 hu) hx
  · cases hr2
section
variable {X : Cx} {W : WX} {a : Expr} {es : List Expr} {pos p : Pos} {x : Str} {k : Nat} {f C : Addr} {fd : FuncData} {ps : List Str} {fn : FDen}
structure DAR (X : Cx) (W : WX) (es : List Expr) (den : Den (List AR)) : Prop where
  run : PA X es (rd relAR X.B W den)
theorem dar_nil : DAR X W [] (dpure []) := ⟨pa_weak pa_nil fun σ H Q q => by
  obtain ⟨c, F, e, ts, R, q⟩ := q
  exact At.pure q F H [] (Ex.refl _) (Ex.refl _) ⟨R, rfl⟩⟩
def darg (r : Rv) : AR := match r with
  | .im d => .im d
  | .new o => .im o.flat
  | .bor i _ => .bor i
def darcons (d : Den Rv) (ds : Den (List AR)) : Den (List AR) := dbind d fun x => dbind ds fun xs => dpure (darg x :: xs)
theorem dar_cons {da : Den Rv} {ds : Den (List AR)} (h : DE X W a da) (hr : DAR X W es ds) (hs : starEach (a :: es) X.env = (false, eval a X.env) :: starEach es X.env := by rfl) : DAR X W (a :: es) (darcons da ds) :=
  ⟨pa_weak (pa_cons h.run hr.run hs) fun σ H Q q => by
    obtain ⟨c, F, e, ts, R, q⟩ := q
    refine ⟨c, F, e, ts, R, q.bind (rel := relR) fun F1 H1 e1 x v ef hr q1 => ?_⟩
    cases x with
    | im d =>
      refine ⟨c, F1, e1, ts, hr.1, q1.bind (rel := relAR) fun F2 H2 e2 y u ef2 hr2 q2 => ?_⟩
      exact At.pure q2 F2 H2 (v :: u) (Ex.refl _) (Ex.refl _) ⟨hr2.1, v, u, rfl, Rep.mono ef2 _ _ hr.2, hr2.2⟩
    | new o =>
      obtain ⟨F3, e3, R3, h3⟩ := RE.freezeT hr
      have q1' : At relAR X.B W (dbind ds fun xs => dpure (darg (.new o) :: xs)) c F3 σ e1 ts H1 Q := by
        obtain ⟨r, hr4, post⟩ := q1
        refine ⟨r, hr4, ?_⟩
        cases r with
        | ok m e5 a => exact fun F' H' v' ef' eh hrel => post F' H' v' (e3.trans ef') eh hrel
        | err m e5 x => exact fun F' H' cls d ef' eh R hx => post F' H' cls d (e3.trans ef') eh R hx
      refine ⟨c, F3, e1, ts, R3, q1'.bind (rel := relAR) fun F2 H2 e2 y u ef2 hr2 q2 => ?_⟩
      exact At.pure q2 F2 H2 (v :: u) (Ex.refl _) (Ex.refl _) ⟨hr2.1, v, u, rfl, Rep.mono ef2 _ _ h3, hr2.2⟩
    | bor i o =>
      refine ⟨c, F1, e1, ts, hr.1, q1.bind (rel := relAR) fun F2 H2 e2 y u ef2 hr2 q2 => ?_⟩
      exact At.pure q2 F2 H2 (v :: u) (Ex.refl _) (Ex.refl _) ⟨hr2.1, v, u, rfl, hr.2.1, hr2.2⟩⟩
/-- f(a, ..) -/
theorem de_call {n : Nat} {ds : Den (List AR)} (Fn : FnOk X.prog X.w X.B X.mg X.base (L2.CX X.prog X.w) k f fd ps (spD X.B n fn)) (tk : Takes X W) (hr : Room k X.A) (hg : Gl X x) (hm : X.mg x = some (.ref f)) (hk : PySem.W.keepIn X.B (.ref f) = true) (hb : Binds X.B fd ps [])
    (ha : DAR X W (a :: es) ds) (hdb : (x == ("__debug__" : Str)) = false := by decide) (he : starEach (a :: es) X.env = (false, eval a X.env) :: starEach es X.env := by rfl) (hpl : (backTo pos (starEach es X.env)).any (·.1) = false := by rfl) :
    DE X W (.Call (.Name x p) (a :: es) [] pos) (dbind ds fun as => dfnA n fn as) := ⟨pe_weak (pe_callS Fn hr hg hm hk hb (fun σ => passAt tk σ) ha.run hdb he hpl) fun σ H Q q => by
  obtain ⟨c, F, e, ts, R, q⟩ := q
  refine ⟨c, F, e, ts, R, q.bind (rel := relAR) fun F1 H1 e1 dl v ef hr1 q1 => ?_⟩
  exact spD_ofA hr1.1 hr1.2 q1⟩
end
end DL

/-! DLH: loops. -/
namespace DL
open PySem PySem.Spec PyProof.Rows L2 Evl

section
variable {X : Cx} {tg : Expr}
/-- what is walked may be a list or a tuple -/
def iSeq (K : KB) (tl : TE) : TI := fun σ H R => tl σ H fun x H1 => ∃ a, x = .ref a ∧ (((∃ xs, SqL K H1 a xs) ∧ R (Itl K a) H1) ∨ ((∃ xs, SqT K H1 a xs) ∧ R (Itt K a) H1))
theorem pi_seq {l : Expr} {tl : TE} (hl : PE X l tl) : PI X tg l (iSeq X.B tl) := by
  refine ⟨fun pins s σ H R I h => ?_⟩
  refine thn (hl.run pins s σ H _ I h) fun v s1 ⟨x, H1, I1, r1, q1⟩ => ?_
  obtain ⟨a, e, q⟩ := q1
  subst e
  cases r1
  rcases q with ⟨⟨xs, hq⟩, q⟩ | ⟨⟨xs, hq⟩, q⟩
  · obtain ⟨its, rv, p, hz⟩ := I1.list hq
    refine wpAny_pyIter_list p.isList ?_
    refine ⟨s1.heap.objs.size, [s1.heap.objs.size], _, _, H1, rfl, I1.kept (t' := s1.toks) fun b o e => Heap.get?_push_of_some _ e, turn_list a _, ⟨_, Heap.get?_push_size _ rfl, rfl, rfl⟩, fun b hb => ?_, q⟩
    have e : b = s1.heap.objs.size := by simpa using hb
    subst e
    exact I1.fpOk (Nat.le_refl _) (I1.hok.fresh (Nat.le_refl _))
  · obtain ⟨its, rv, p, hz⟩ := I1.tuple hq
    refine wpAny_pyIter_tuple (show s1.heap.IsTuple a its.toArray from p) ?_
    refine ⟨s1.heap.objs.size, [s1.heap.objs.size], _, _, H1, rfl, I1.kept (t' := s1.toks) fun b o e => Heap.get?_push_of_some _ e, turn_tuple a _, ⟨_, Heap.get?_push_size _ rfl, rfl, rfl⟩, fun b hb => ?_, q⟩
    have e : b = s1.heap.objs.size := by simpa using hb
    subst e
    exact I1.fpOk (Nat.le_refl _) (I1.hok.fresh (Nat.le_refl _))
end
/-- a loop's turn, then the rest -/
def sturn (r : Option SRes) (rest : SDen) : Option SRes := match r with
  | some (.nx m e) => SRes.more m (rest e)
  | some (.ct m e) => SRes.more m (rest e)
  | some (.bk m e) => some (.nx m e)
  | some (.rt m e v) => some (.rt m e v)
  | some (.er m e x) => some (.er m e x)
  | none => none
def sloop (bind : D → Env → Option Env) (body : SDen) : List D → SDen
  | [] => snext
  | d :: ds => fun e => match bind d e with
    | some e1 => sturn (body e1) (sloop bind body ds)
    | none => none
section
variable {K : KB} {W : WX} {c : Ctx} {F H : Hp} {σ : L2.St} {e : Env} {ts : List (V × O)}
theorem AtS.turn {b rest : SDen} {D : Ends} {N : L2.St → Hp → Prop} (h : ∃ r, sturn (b e) rest = some r ∧ PostS K W D c F ts H r)
    (k : ∀ F1 H1 σ1 e1, Ex F F1 → RE K c F1 H1 σ1 e1 ts → AtS K W rest D c F1 σ1 e1 ts H1 → N σ1 H1) : AtS K W b { D with nx := N, ct := N, bk := D.nx } c F σ e ts H := by
  obtain ⟨r, hr, post⟩ := h
  cases hd : b e with
  | none => rw [hd] at hr; cases hr
  | some r1 =>
    rw [hd] at hr
    refine ⟨r1, hd, ?_⟩
    cases r1 with
    | nx m e1 => exact fun F1 H1 σ1 ef eh R => k F1 H1 σ1 e1 ef R (AtS.more hr ef eh post)
    | ct m e1 => exact fun F1 H1 σ1 ef eh R => k F1 H1 σ1 e1 ef R (AtS.more hr ef eh post)
    | bk m e1 => cases hr; exact post
    | rt m e1 v => cases hr; exact post
    | er m e1 x => cases hr; exact post
/-- what an iterator walks: P says what stands there -/
structure Src (J : It) (P : List V → Hp → Prop) : Prop where
  go : ∀ i xs H, P xs H → i < xs.length → J.go i H
  stop : ∀ i xs H, P xs H → xs.length ≤ i → J.stop i H
  yld : ∀ i xs H x H', P xs H → i < xs.length → J.yld i H x H' → H' = H ∧ xs[i]? = some x
theorem src_list {a : Addr} : Src (Itl K a) (fun xs H => SqL K H a xs) where
  go := fun i xs H h hi => ⟨xs, xs[i], h, List.getElem?_eq_getElem hi⟩
  stop := fun i xs H h hi => ⟨xs, h, hi⟩
  yld := fun i xs H x H' h _ hy => ⟨hy.1, hy.2 xs h⟩
theorem src_tup {a : Addr} : Src (Itt K a) (fun xs H => SqT K H a xs) where
  go := fun i xs H h hi => ⟨xs, xs[i], h, List.getElem?_eq_getElem hi⟩
  stop := fun i xs H h hi => ⟨xs, h, hi⟩
  yld := fun i xs H x H' h _ hy => ⟨hy.1, hy.2 xs h⟩
/-- the loop -/
theorem loop_ok {X : Cx} {J : It} {P : List V → Hp → Prop} (S : Src J P) {bind : D → Env → Option Env} {sl : List Nat} {body : SDen} {ds : List D} {D0 : Ends} (hP : ∀ F' H' σ' e', Ex F F' → RE X.B c F' H' σ' e' ts → ∃ xs, P xs H' ∧ Reps X.B F' ds xs) (R : RE X.B c F H σ e ts)
    (h : AtS X.B W (sloop bind body ds) D0 c F σ e ts H) :
    ∃ Wv : Nat → Nat → L2.St → Hp → Prop, (∃ m, Wv 0 m σ H) ∧ ∀ i m σ H, Wv i m σ H → (J.stop i H ∧ D0.nx σ H) ∨ (J.go i H ∧ ∃ N : L2.St → Hp → Prop, (∀ σ' H', N σ' H' → ∃ m', m' < m ∧ Wv (i + 1) m' σ' H') ∧
      ∀ x H', J.yld i H x H' → tgR X.B bind sl x σ H' fun σ2 H2 => rdS X.B W body { D0 with nx := N, ct := N, bk := D0.nx } σ2 H2) := by
  refine ⟨fun i m σ H => ∃ F1 e1, Ex F F1 ∧ RE X.B c F1 H σ e1 ts ∧ AtS X.B W (sloop bind body (ds.drop i)) D0 c F1 σ e1 ts H ∧ m + i = ds.length, ⟨ds.length, F, e, Ex.refl _, R, h, by omega⟩, ?_⟩
  rintro i m σ1 H1 ⟨F1, e1, ef, R1, h1, hm⟩
  obtain ⟨xs, p1, hr⟩ := hP F1 H1 σ1 e1 ef R1
  have hlen := hr.length
  by_cases hi : i < xs.length
  · refine .inr ⟨S.go i xs H1 p1 hi, fun σ' H' => ∃ F2 e2, Ex F F2 ∧ RE X.B c F2 H' σ' e2 ts ∧ AtS X.B W (sloop bind body (ds.drop (i + 1))) D0 c F2 σ' e2 ts H', ?_, ?_⟩
    · rintro σ' H' ⟨F2, e2, ef2, R2, h2⟩
      exact ⟨m - 1, by omega, F2, e2, ef2, R2, h2, by omega⟩
    · intro x H' hy
      obtain ⟨rfl, hx⟩ := S.yld i xs H1 x H' p1 hi hy
      obtain ⟨d, hd, hrep⟩ := hr.getV i hx
      have hdrop : ds.drop i = d :: ds.drop (i + 1) := by
        have hl : i < ds.length := by omega
        rw [List.drop_eq_getElem_cons hl]
        have := (List.getElem?_eq_some_iff.mp hd).2
        rw [this]
      rw [hdrop] at h1
      obtain ⟨r, hr2, post⟩ := h1
      unfold sloop at hr2
      cases hb : bind d e1 with
      | none => rw [hb] at hr2; cases hr2
      | some e2 =>
        rw [hb] at hr2
        refine ⟨c, F1, e1, ts, d, e2, R1, hrep, hb, fun σ' R' _ => ⟨c, F1, e2, ts, R', ?_⟩⟩
        exact AtS.turn ⟨r, hr2, post⟩ fun F3 H3 σ3 e3 ef3 R3 h3 => ⟨F3, e3, ef.trans ef3, R3, h3⟩
  · refine .inl ⟨S.stop i xs H1 p1 (by omega), ?_⟩
    have hdrop : ds.drop i = [] := List.drop_eq_nil_of_le (by omega)
    rw [hdrop] at h1
    exact AtS.next h1 R1
/-- what is pinned -/
def pins (e : Env) : List Bool := e.map fun s => match s with
  | some (true, _) => true
  | _ => false
theorem pins_get {e e' : Env} (h : pins e = pins e') {j : Nat} {o : O} (hj : e[j]? = some (some (true, o))) : ∃ o', e'[j]? = some (some (true, o')) := by
  have h1 : (pins e)[j]? = some true := by unfold pins; rw [List.getElem?_map, hj]; rfl
  rw [h] at h1
  unfold pins at h1
  rw [List.getElem?_map] at h1
  cases q : e'[j]? with
  | none => rw [q] at h1; cases h1
  | some s =>
    rw [q] at h1
    cases s with
    | none => cases h1
    | some s =>
      obtain ⟨b, o'⟩ := s
      cases b with
      | false => cases h1
      | true => exact ⟨o', rfl⟩
theorem Slots.repin : ∀ {e : Env} {σ τ τ' : L2.St} {hs : List (V × O)}, Slots e σ τ hs → (∀ (j : Nat) (v : V) (o : O), e[j]? = some (some (true, o)) → σ[j]? = some (some v) → τ'[j]? = some (some v)) → Slots e σ τ' hs
  | [], σ, τ, τ', hs, h, k => h
  | none :: e, σ, τ, τ', hs, h, k => by
    obtain ⟨x, r, e1, h1⟩ := h
    subst e1
    refine ⟨x, r, rfl, Slots.repin h1 fun j v o hj hv => ?_⟩
    have := k (j + 1) v o (by simpa using hj) (by simpa using hv)
    cases τ' with
    | nil => simp at this
    | cons y ys => simpa using this
  | some q :: e, σ, τ, τ', hs, h, k => by
    obtain ⟨v, r, hr, e1, hb, e2, h1⟩ := h
    subst e1
    refine ⟨v, r, hr, rfl, fun z => ?_, e2, Slots.repin h1 fun j w o hj hv => ?_⟩
    · have := k 0 v q.2 (by rw [show q = (q.1, q.2) from rfl, z]; rfl) rfl
      cases τ' with
      | nil => simp at this
      | cons y ys => simpa using this
    · have := k (j + 1) w o (by simpa using hj) (by simpa using hv)
      cases τ' with
      | nil => simp at this
      | cons y ys => simpa using this
theorem RE.repin {τ' : L2.St} (R : RE K c F H σ e ts) (k : ∀ (j : Nat) (v : V) (o : O), e[j]? = some (some (true, o)) → σ[j]? = some (some v) → τ'[j]? = some (some v)) : RE K { c with σ0 := τ' } F H σ e ts := by
  obtain ⟨hs, fs, h1, h2, h3, h4⟩ := R.hd
  exact ⟨R.g, R.f0, R.fh, R.nw, hs, fs, h1.repin k, h2, h3, h4⟩
/-- a slot lent to what follows: nothing is known of it, it is not stored to -/
def slend (i : Nat) (d : SDen) : SDen := fun e => match e[i]? with
  | some (some (b, o)) =>
    let e0 := e.set i (some (true, .im .any))
    let back : Env → Option Env := fun e' => if pins e' = pins e0 then (match e'[i]? with
      | some (some (true, _)) => some (e'.set i (some (b, o)))
      | _ => none) else none
    match d e0 with
    | some (.nx m e') => (back e').map fun e2 => SRes.nx m e2
    | some (.rt m e' (.im x)) => (back e').map fun e2 => SRes.rt m e2 (.im x)
    | some (.rt m e' (.new x)) => (back e').map fun e2 => SRes.rt m e2 (.new x)
    | some (.rt m e' (.bor j x)) => if j = i then none else (back e').map fun e2 => SRes.rt m e2 (.bor j x)
    | some (.er m e' x) => (back e').map fun e2 => SRes.er m e2 x
    | _ => none
  | _ => none
theorem AtS.lend {i : Nat} {d : SDen} {D0 : Ends} (h : AtS K W (slend i d) D0 c F σ e ts H) (R : RE K c F H σ e ts) : ∃ b o v, e[i]? = some (some (b, o)) ∧ σ[i]? = some (some v) ∧
    RE K { c with σ0 := σ } F H σ (e.set i (some (true, .im .any))) ((v, o) :: ts) ∧ AtS K W d D0 { c with σ0 := σ } F σ (e.set i (some (true, .im .any))) ((v, o) :: ts) H := by
  obtain ⟨r, hr, post⟩ := h
  unfold slend at hr
  cases he : e[i]? with
  | none => rw [he] at hr; cases hr
  | some s =>
    rw [he] at hr
    cases s with
    | none => cases hr
    | some s =>
      obtain ⟨b, o⟩ := s
      obtain ⟨v, hv, hb, R1⟩ := R.out he
      have hi : i < e.length := (List.getElem?_eq_some_iff.mp he).1
      have hnone : (e.set i none)[i]? = some none := List.getElem?_set_self hi
      have R2 : RE K { c with σ0 := σ } F H σ (e.set i none) ((v, o) :: ts) := R1.repin fun j w o' _ hw => hw
      have R3 : RE K { c with σ0 := σ } F H σ (e.set i (some (true, .im .any))) ((v, o) :: ts) := by
        have R4 : RE K { c with σ0 := σ } F H σ (e.set i none) ((v, .im .any) :: (v, o) :: ts) := by
          obtain ⟨hs, fs, a1, a2, a3, a4⟩ := R2.hd
          exact ⟨R2.g, R2.f0, R2.fh, R2.nw, hs, fs, a1, ⟨[], fs, rfl, ⟨rfl, True.intro⟩, a2⟩, a3, a4⟩
        have := R4.inn (b := true) hnone hv (fun _ => hv)
        rwa [List.set_set] at this
      refine ⟨b, o, v, rfl, hv, R3, ?_⟩
      dsimp only at hr
      -- back again
      have back : ∀ {F' H' : Hp} {σ' : L2.St} {e' e2 : Env} {tt : List (V × O)}, (if pins e' = pins (e.set i (some (true, .im .any))) then (match e'[i]? with
            | some (some (true, _)) => some (e'.set i (some (b, o)))
            | _ => none) else none) = some e2 → RE K { c with σ0 := σ } F' H' σ' e' ((v, o) :: tt) → RE K c F' H' σ' e2 tt ∧ ∀ j, j ≠ i → e2[j]? = e'[j]? := by
        intro F' H' σ' e' e2 tt hbk R'
        split at hbk
        · rename_i hp
          split at hbk
          · rename_i o1 hi1
            cases hbk
            obtain ⟨w, hw, hw2, R5⟩ := R'.out hi1
            have ew : w = v := by
              have := hw2 rfl
              dsimp only at this
              rw [hv] at this
              cases this
              rfl
            subst ew
            have R6 : RE K { c with σ0 := σ } F' H' σ' (e'.set i none) ((w, o) :: tt) := R5.drop
            have R7 : RE K c F' H' σ' (e'.set i none) ((w, o) :: tt) := by
              refine R6.repin (τ' := c.σ0) fun j u o' hj hu => ?_
              have hji : j ≠ i := fun z => by
                subst z
                rw [List.getElem?_set_self (List.getElem?_eq_some_iff.mp hi1).1] at hj
                cases hj
              rw [List.getElem?_set_ne (Ne.symm hji)] at hj
              obtain ⟨o2, ho2⟩ := pins_get hp hj
              have ho3 := ho2
              rw [List.getElem?_set_ne (Ne.symm hji)] at ho3
              obtain ⟨y, hy, hy2, _⟩ := R.out ho3
              obtain ⟨z, hz, hz2, _⟩ := R'.out hj
              have e1 := hz2 rfl
              dsimp only at e1
              rw [hu] at hz
              cases hz
              rw [hy] at e1
              cases e1
              exact hy2 rfl
            have hn2 : (e'.set i none)[i]? = some none := List.getElem?_set_self (List.getElem?_eq_some_iff.mp hi1).1
            have := R7.inn (b := b) hn2 hw hb
            rw [List.set_set] at this
            exact ⟨this, fun j hj => List.getElem?_set_ne (Ne.symm hj)⟩
          · cases hbk
        · cases hbk
      cases hd : d (e.set i (some (true, .im .any))) with
      | none => rw [hd] at hr; cases hr
      | some r1 =>
        rw [hd] at hr
        refine ⟨r1, hd, ?_⟩
        cases r1 with
        | nx m e1 =>
          obtain ⟨e2, hb2, e3⟩ := Option.map_eq_some_iff.mp hr
          subst e3
          exact fun F' H' σ' ef eh R' => post F' H' σ' ef eh (back hb2 R').1
        | rt m e1 rv =>
          cases rv with
          | im x =>
            obtain ⟨e2, hb2, e3⟩ := Option.map_eq_some_iff.mp hr
            subst e3
            exact fun F' H' σ' w ef eh R' => post F' H' σ' w ef eh ⟨(back hb2 R'.1).1, R'.2⟩
          | new x =>
            obtain ⟨e2, hb2, e3⟩ := Option.map_eq_some_iff.mp hr
            subst e3
            exact fun F' H' σ' w ef eh R' => post F' H' σ' w ef eh (back hb2 (RE.perm (ts' := (v, o) :: (w, x) :: ts) R' (List.Perm.swap _ _ _))).1
          | bor j x =>
            dsimp only at hr
            split at hr
            · cases hr
            · rename_i hj
              obtain ⟨e2, hb2, e3⟩ := Option.map_eq_some_iff.mp hr
              subst e3
              exact fun F' H' σ' w ef eh R' => post F' H' σ' w ef eh ⟨(back hb2 R'.1).1, R'.2.1, by
                rw [(back hb2 R'.1).2 j hj]
                exact R'.2.2⟩
        | bk m e1 => cases hr
        | ct m e1 => cases hr
        | er m e1 x =>
          obtain ⟨e2, hb2, e3⟩ := Option.map_eq_some_iff.mp hr
          subst e3
          exact fun F' H' σ' cls d ef eh R' hx => post F' H' σ' cls d ef eh (back hb2 R').1 hx
end
/-- the items of what is frozen; of what is owned, where all are frozen -/
@[simp] def seqD : D → Option (List D)
  | .tup ds => some ds
  | .wtp ds => some ds
  | .lst ds => some ds
  | .scr ds => some ds
  | _ => none
@[simp] def ims : List O → Option (List D)
  | [] => some []
  | .im d :: os => (ims os).map fun ds => d :: ds
  | _ :: _ => none
theorem ims_eq : ∀ {os : List O} {ds : List D}, ims os = some ds → os = ds.map O.im
  | [], ds, h => by cases h; rfl
  | .im d :: os, ds, h => by
    obtain ⟨r, hr, e⟩ := Option.map_eq_some_iff.mp h
    subst e
    rw [List.map_cons, ← ims_eq hr]
  | .lst _ :: _, ds, h => by cases h
  | .tup _ :: _, ds, h => by cases h
  | .dct _ _ :: _, ds, h => by cases h
  | .ins _ _ _ :: _, ds, h => by cases h
@[simp] def seqO : O → Option (List D)
  | .lst os => ims os
  | .tup os => ims os
  | _ => none
def sfor (it : Den Rv) (bind : D → Env → Option Env) (body : SDen) : SDen := sbind it fun rv e => match rv with
  | .im d => match seqD d with
    | some ds => sloop bind body ds e
    | none => none
  | .new o => match seqD o.flat with
    | some ds => sloop bind body ds e
    | none => none
  | .bor i _ => match e[i]? with
    | some (some (_, o)) => match seqO o with
      | some ds => slend i (sloop bind body ds) e
      | none => none
    | _ => none
section
variable {X : Cx} {W : WX} {tg iter : Expr} {body : List Stmt} {pos : Pos} {it : Den Rv} {bind : D → Env → Option Env} {sl : List Nat} {db : SDen}
theorem seq_src {K : KB} {F : Hp} {d : D} {ds : List D} {v : V} (h : Rep K F d v) (hs : seqD d = some ds) : ∃ a xs, v = .ref a ∧ Reps K F ds xs ∧ ((SqL K F a xs) ∨ (SqT K F a xs)) := by
  cases d with
  | tup es => cases hs; obtain ⟨a, xs, e1, h1, h2⟩ := h; exact ⟨a, xs, e1, h2, .inr (h1)⟩
  | wtp es => cases hs; obtain ⟨a, xs, e1, h1, h2⟩ := h; exact ⟨a, xs, e1, h2, .inr h1⟩
  | lst es => cases hs; obtain ⟨a, xs, e1, h1, h2⟩ := h; exact ⟨a, xs, e1, h2, .inl (SqL.of h1)⟩
  | scr es => cases hs; obtain ⟨a, xs, e1, h1, h2⟩ := h; exact ⟨a, xs, e1, h2, .inl h1⟩
  | _ => cases hs
end
end DL

/-! DLI: ranges, while, lists that grow, items, fields. -/
namespace DL
open PySem PySem.Spec PyProof.Rows L2 Evl

def rangeD (lo : Int) (n : Nat) : List D := (List.range n).map fun (i : Nat) => D.int (lo + (i : Int))
@[simp] def rng1D : List D → Option (List D)
  | [.int n] => if -(2 ^ 62) ≤ n ∧ n < 2 ^ 62 then some (rangeD 0 n.toNat) else none
  | _ => none
@[simp] def rng2D : List D → Option (List D)
  | [.int a, .int b] => if -(2 ^ 62) ≤ a ∧ a < 2 ^ 62 ∧ -(2 ^ 62) ≤ b ∧ b < 2 ^ 62 then some (rangeD a (b - a).toNat) else none
  | _ => none
theorem reps_range {K : KB} {F : Hp} {lo : Int} {n : Nat} : Reps K F (rangeD lo n) ((List.range n).map fun (i : Nat) => V.int (lo + (i : Int))) := by
  unfold rangeD
  have key : ∀ l : List Nat, Reps K F (l.map fun (i : Nat) => D.int (lo + (i : Int))) (l.map fun (i : Nat) => V.int (lo + (i : Int))) := by
    intro l
    induction l with
    | nil => exact rfl
    | cons a l ih => exact ⟨_, _, rfl, rfl, ih⟩
  exact key _
theorem src_range {lo : Int} {n : Nat} : Src (Itr lo n) (fun xs _ => xs = (List.range n).map fun (i : Nat) => V.int (lo + (i : Int))) where
  go := fun i xs H h hi => by
    subst h
    show i < n
    simpa using hi
  stop := fun i xs H h hi => by
    subst h
    show n ≤ i
    simpa using hi
  yld := fun i xs H x H' h hi hy => by
    subst h
    obtain ⟨e1, e2⟩ := (show H' = H ∧ x = .int (lo + i) from hy)
    refine ⟨e1, ?_⟩
    have hi' : i < n := by simpa using hi
    rw [List.getElem?_map, List.getElem?_range hi', e2]
    rfl
section
variable {X : Cx} {W : WX} {tg : Expr} {body : List Stmt} {pos p p2 : Pos} {as : Den (List D)} {bind : D → Env → Option Env} {sl : List Nat} {db : SDen} {a b : Expr}
theorem reps_int {K : KB} {F : Hp} {i : Int} {vs : List V} (h : Reps K F [.int i] vs) : vs = [.int i] := by
  obtain ⟨x, r, rfl, h1, h2⟩ := h
  rw [show x = V.int i from h1, show r = [] from h2]
theorem reps_int2 {K : KB} {F : Hp} {i j : Int} {vs : List V} (h : Reps K F [.int i, .int j] vs) : vs = [.int i, .int j] := by
  obtain ⟨x, r, rfl, h1, h2⟩ := h
  rw [show x = V.int i from h1, reps_int h2]
theorem rng1_case {vs : List D} {ds : List D} (h : rng1D vs = some ds) : ∃ n : Int, vs = [.int n] ∧ -(2 ^ 62) ≤ n ∧ n < 2 ^ 62 ∧ ds = rangeD 0 n.toNat := by
  unfold rng1D at h
  split at h
  · split at h
    · rename_i n hz
      cases h
      exact ⟨n, rfl, hz.1, hz.2, rfl⟩
    · cases h
  · cases h

/-! ### while -/
def swhile (t : Den Bool) (b : SDen) : Nat → SDen
  | 0 => fun _ => none
  | n + 1 => sbind t fun k => if k then (fun e => sturn (b e) (swhile t b n)) else snext
theorem ds_while {t : Expr} {dt : Den Bool} (n : Nat) (hp : PassesOwn (model X.prog X.w) X.A X.env X.xe) (h : DT X W t dt) (hb : DSs X W body db) : DS X W (.While t body [] pos) (swhile dt db n) := ⟨ps_weak (ps_while hp h.run hb.run) fun D0 σ H q => by
  obtain ⟨c, F, e, ts, R, q⟩ := q
  refine ⟨fun m σ H => ∃ F1 e1, RE X.B c F1 H σ e1 ts ∧ AtS X.B W (swhile dt db m) D0 c F1 σ e1 ts H, ⟨n, F, e, R, q⟩, ?_⟩
  rintro m σ1 H1 ⟨F1, e1, R1, q1⟩
  cases m with
  | zero =>
    obtain ⟨r, hr, _⟩ := q1
    cases hr
  | succ m =>
    refine ⟨c, F1, e1, ts, R1, AtS.sbind (rel := relB) (f := fun k => if k then (fun e => sturn (db e) (swhile dt db m)) else snext) q1 fun F2 H2 e2 k v ef hr q2 => ?_⟩
    obtain ⟨R2, rfl⟩ := hr
    cases k with
    | true =>
      refine iteT ⟨fun σ' H' => ∃ F3 e3, RE X.B c F3 H' σ' e3 ts ∧ AtS X.B W (swhile dt db m) D0 c F3 σ' e3 ts H', fun σ' H' hw => ⟨m, Nat.lt_succ_self m, hw⟩, c, F2, e2, ts, R2, ?_⟩
      obtain ⟨r, hr2, post⟩ := q2
      exact AtS.turn ⟨r, hr2, post⟩ fun F3 H3 σ3 e3 ef3 R3 h3 => ⟨F3, e3, R3, h3⟩
    | false => exact iteF (AtS.next q2 R2)⟩

/-! ### a value as a temporary -/
def rvO (rv : Rv) : Den O := fun e => match rv with
  | .im d => some (.ok false e (.im d))
  | .new o => some (.ok false e o)
  | .bor i _ => match e[i]? with
    | some (some (b, o)) => some (.ok false (e.set i (some (b, .im o.flat))) (.im o.flat))
    | _ => none
theorem RE.imT {K : KB} {c : Ctx} {F H : Hp} {σ : L2.St} {e : Env} {ts : List (V × O)} {d : D} {v : V} (R : RE K c F H σ e ts) (h : Rep K F d v) : RE K c F H σ e ((v, .im d) :: ts) := by
  obtain ⟨hs, fs, a1, a2, a3, a4⟩ := R.hd
  exact ⟨R.g, R.f0, R.fh, R.nw, hs, fs, a1, ⟨[], fs, rfl, ⟨rfl, h⟩, a2⟩, a3, a4⟩
/-- an expression's value, then a statement's rest, with the value as a temporary -/
theorem AtS.tmp {K : KB} {c : Ctx} {F H : Hp} {σ : L2.St} {e : Env} {ts : List (V × O)} {D0 : Ends} {de : Den Rv} {f : O → SDen} {Q' : V → Hp → Prop} (h : AtS K W (DL.sbind de fun rv => DL.sbind (rvO rv) f) D0 c F σ e ts H)
    (k : ∀ F1 H1 e1 o v, Ex F F1 → RE K c F1 H1 σ e1 ((v, o) :: ts) → AtS K W (f o) D0 c F1 σ e1 ts H1 → Q' v H1) : At relR K W de c F σ e ts H Q' := by
  refine h.sbind (rel := relR) fun F1 H1 e1 rv v ef hr q1 => ?_
  -- the inner step changes no heap
  have step : ∀ {F2 : Hp} {e2 : Env} {o : O}, rvO rv e1 = some (.ok false e2 o) → Ex F1 F2 → RE K c F2 H1 σ e2 ((v, o) :: ts) → Q' v H1 := by
    intro F2 e2 o h2 ef2 R2
    obtain ⟨r, hr2, post⟩ := q1
    unfold DL.sbind at hr2
    rw [h2] at hr2
    exact k F2 H1 e2 o v (ef.trans ef2) R2 (AtS.more hr2 ef2 (fun _ => Ex.refl _) post)
  cases rv with
  | im d => exact step rfl (Ex.refl _) (hr.1.imT hr.2)
  | new o => exact step rfl (Ex.refl _) hr
  | bor i o =>
    obtain ⟨R1, hv, b, hb⟩ := hr
    obtain ⟨F2, w, e2, hw, R2, hrep⟩ := R1.freezeS hb
    rw [hv] at hw
    cases hw
    refine step (F2 := F2) (e2 := e1.set i (some (b, .im o.flat))) (o := .im o.flat) ?_ e2 (R2.imT hrep)
    unfold rvO
    dsimp only
    rw [hb]
/-- a temporary is laid into a list that is another one -/
theorem RE.push {K : KB} {c : Ctx} {F H : Hp} {σ : L2.St} {e : Env} {ts : List (V × O)} {os : List O} {o : O} {vl v : V} (R : RE K c F H σ e ((vl, .lst os) :: (v, o) :: ts)) :
    ∃ l xs, vl = .ref l ∧ H l = some (.lst xs) ∧ os.length = xs.length ∧ RE K c F (upd H l (.lst (xs ++ [v]))) σ e ((vl, .lst (os ++ [o])) :: ts) := by
  obtain ⟨hs, fs, h1, h2, h3, h4⟩ := R.hd
  obtain ⟨f1, f2, e1, h5, f3, f4, e2, h6, h7⟩ := h2
  obtain ⟨l, xs, r, el, e3, hl, hos⟩ := h5
  subst e3
  subst e2
  subst e1
  refine ⟨l, xs, el, hl, hos.length, ?_⟩
  obtain ⟨q1, q2, q3⟩ := List.nodup_append.mp h3
  obtain ⟨q4, q5⟩ := List.nodup_cons.mp q1
  have lf : F l = none ∧ c.G l = none := h4 l (List.mem_append_left _ List.mem_cons_self)
  have kp : ∀ p, p ≠ l → ∀ u, H p = some u → upd H l (.lst (xs ++ [v])) p = some u := fun p hp u z => by rw [upd_ne hp]; exact z
  have nl : ∀ p, p ∈ r ∨ p ∈ f3 ++ f4 → p ≠ l := fun p hp z => by
    subst z
    rcases hp with hp | hp
    · exact q4 hp
    · exact q3 p List.mem_cons_self p hp rfl
  refine ⟨fun p u z => ?_, R.f0, fun p u z => ?_, R.nw, hs, (l :: (r ++ f3)) ++ f4, h1, ⟨l :: (r ++ f3), f4, rfl, ⟨l, xs ++ [v], r ++ f3, el, rfl, upd_same, ?_⟩, Held.mono (Ex.refl _) (fun p hp => kp p (nl p (.inr (List.mem_append_right _ hp)))) h7⟩, ?_, fun p hp => h4 p ?_⟩
  · have hp : p ≠ l := fun w => by
      subst w
      rw [lf.2] at z
      cases z
    exact kp p hp u (R.g p u z)
  · have hp : p ≠ l := fun w => by
      subst w
      rw [lf.1] at z
      cases z
    exact kp p hp u (R.fh p u z)
  · refine Owns.append (Owns.mono (Ex.refl _) _ _ _ (fun p hp => kp p (nl p (.inl hp))) hos) ?_
    exact ⟨v, [], f3, [], rfl, (List.append_nil _).symm, Own.mono (Ex.refl _) _ _ _ (fun p hp => kp p (nl p (.inr (List.mem_append_left _ hp)))) h6, rfl, rfl⟩
  · have : (l :: (r ++ f3)) ++ f4 = (l :: r) ++ (f3 ++ f4) := by simp
    rw [this]
    exact h3
  · have : (l :: (r ++ f3)) ++ f4 = (l :: r) ++ (f3 ++ f4) := by simp
    rw [this] at hp
    exact hp
/-- x.append(e) -/
def sapp (i : Nat) (de : Den Rv) : SDen := fun e0 => match e0[i]? with
  | some (some (_, .lst _)) => sbind de (fun rv => sbind (rvO rv) fun o e => match e[i]? with
    | some (some (b, .lst os)) => if os.length < sizeLine then some (.nx true (e.set i (some (b, .lst (os ++ [o]))))) else none
    | _ => none) e0
  | _ => none
theorem ds_app {i : Nat} {x : Str} {de : Den Rv} {apos px : Pos} (hx : PE X (.Name x px) (tVar i)) (h : DE X W a de)
    (hpe : ∀ {t : TA}, PA X [a] t → PE X (.Call (.Attribute (.Name x px) "append" apos) [a] [] p) (tBM X.B "list" rAppend (tVar i) t))
    (hs0 : starEach (a :: []) X.env = (false, eval a X.env) :: starEach [] X.env := by rfl) (hs : swapsWith (.Call (.Attribute (.Name x px) "append" apos) [a] [] p) none pos.line X.env = pure false := by rfl) :
    DS X W (.Expr (.Call (.Attribute (.Name x px) "append" apos) [a] [] p) pos) (sapp i de) :=
  ⟨ps_weak (ps_expr (hpe (pa_cons h.run pa_nil hs0)) hs) fun D0 σ H q => by
    obtain ⟨c, F, e, ts, R, r, hr, post⟩ := q
    unfold sapp at hr
    cases he : e[i]? with
    | none => rw [he] at hr; cases hr
    | some s =>
      rw [he] at hr
      cases s with
      | none => cases hr
      | some s =>
        obtain ⟨b, o⟩ := s
        cases o with
        | lst os =>
          obtain ⟨v, fs, hv, l, xs, rr, ev, _, hl, _⟩ := R.slot he
          subst ev
          refine ⟨.ref l, hv, .inl ⟨rfl, xs, SqL.of hl⟩, c, F, e, ts, R, ?_⟩
          have q0 : AtS X.B W (sbind de (fun rv => sbind (rvO rv) fun o e => match e[i]? with
            | some (some (b, .lst os)) => if os.length < sizeLine then some (.nx true (e.set i (some (b, .lst (os ++ [o]))))) else none
            | _ => none)) D0 c F σ e ts H := ⟨r, hr, post⟩
          refine q0.tmp fun F1 H1 e1 o v ef R1 q1 => ?_
          obtain ⟨r1, hr1, post1⟩ := q1
          dsimp only at hr1
          cases he1 : e1[i]? with
          | none => rw [he1] at hr1; cases hr1
          | some s =>
            rw [he1] at hr1
            cases s with
            | none => cases hr1
            | some s =>
              obtain ⟨b1, o1⟩ := s
              cases o1 with
              | lst os1 =>
                dsimp only at hr1
                split at hr1
                · rename_i hz
                  cases hr1
                  obtain ⟨vl, hvl, hb1, R2⟩ := R1.out he1
                  rw [hv] at hvl
                  cases hvl
                  obtain ⟨l', xs1, e3, hl1, hlen, R3⟩ := R2.push
                  cases e3
                  refine ⟨l, xs1, v, rfl, rfl, hl1, by rw [← hlen]; exact hz, ?_⟩
                  have hn : (e1.set i none)[i]? = some none := List.getElem?_set_self (List.getElem?_eq_some_iff.mp he1).1
                  have R4 := R3.inn (b := b1) hn hv hb1
                  rw [List.set_set] at R4
                  exact post1 F1 _ σ (Ex.refl _) (fun z => by cases z) R4
                · cases hr1
              | _ => cases hr1
        | _ => cases hr⟩
end
end DL

/-! DLJ: sources that are walked; list comprehensions. -/
namespace DL
open PySem PySem.Spec PyProof.Rows L2 Evl

/-- an iterator over frozen things -/
def relJ : Rel (List D) It := fun K c F H σ e ts ds J => RE K c F H σ e ts ∧ ∃ P, Src J P ∧ ∀ F' H', Ex F F' → Ex F' H' → ∃ xs, P xs H' ∧ Reps K F' ds xs
structure DPI (X : Cx) (W : WX) (tg iter : Expr) (den : Den (List D)) : Prop where
  run : PI X tg iter (rd relJ X.B W den)
theorem pi_weak {X : Cx} {tg iter : Expr} {t t' : TI} (h : PI X tg iter t) (k : ∀ σ H R, t' σ H R → t σ H R) : PI X tg iter t' := ⟨fun pins s σ H R I q => h.run pins s σ H R I (k σ H R q)⟩
def sq (d : Den D) : Den (List D) := dbind d fun x => dlift (seqD x)
def rg (g : List D → Option (List D)) (d : Den (List D)) : Den (List D) := dbind d fun x => dlift (g x)
section
variable {X : Cx} {W : WX} {tg iter : Expr} {body : List Stmt} {pos p p2 : Pos} {as : Den (List D)} {bind : D → Env → Option Env} {sl : List Nat} {db : SDen} {a b : Expr}
theorem dpi_seq {d : Den D} (h : DI X W iter d) : DPI X W tg iter (sq d) := ⟨pi_weak (pi_seq h.run) fun σ H R q => by
  obtain ⟨c, F, e, ts, R, q⟩ := q
  refine ⟨c, F, e, ts, R, q.bind (rel := relI) fun F1 H1 e1 x v ef hr q1 => ?_⟩
  obtain ⟨ds, hd, k⟩ := q1.lift
  obtain ⟨a, xs, rfl, hrs, hsrc⟩ := seq_src hr.2 hd
  refine ⟨a, rfl, ?_⟩
  rcases hsrc with hsrc | hsrc
  · exact .inl ⟨⟨xs, ex_l hr.1.fh hsrc⟩, k F1 H1 (Itl X.B a) (Ex.refl _) (Ex.refl _) ⟨hr.1, _, src_list, fun F' H' ef fh => ⟨xs, ex_l (ef.trans fh) hsrc, Reps.mono ef _ _ hrs⟩⟩⟩
  · exact .inr ⟨⟨xs, ex_t hr.1.fh hsrc⟩, k F1 H1 (Itt X.B a) (Ex.refl _) (Ex.refl _) ⟨hr.1, _, src_tup, fun F' H' ef fh => ⟨xs, ex_t (ef.trans fh) hsrc, Reps.mono ef _ _ hrs⟩⟩⟩⟩
theorem dpi_range1 (hgl : Gl X "range") (hm : X.mg "range" = none) (ha : DA X W [a] as) (hs0 : starEach [a] X.env = [(false, eval a X.env)] := by rfl) : DPI X W tg (.Call (.Name "range" p) [a] [] p2) (rg rng1D as) := ⟨pi_weak (pi_range1 hgl hm ha.run hs0) fun σ H R q => by
  obtain ⟨c, F, e, ts, R, q⟩ := q
  refine ⟨c, F, e, ts, R, q.bind (rel := relA) fun F1 H1 e1 vs v ef hr q1 => ?_⟩
  obtain ⟨ds, hd, k⟩ := q1.lift
  obtain ⟨n, rfl, b1, b2, rfl⟩ := rng1_case hd
  have ev := reps_int hr.2
  subst ev
  exact ⟨n, rfl, b1, b2, k F1 H1 _ (Ex.refl _) (Ex.refl _) ⟨hr.1, _, src_range, fun F' H' _ _ => ⟨_, rfl, reps_range⟩⟩⟩⟩
/-- for over a frozen source -/
def sforP (src : Den (List D)) (bind : D → Env → Option Env) (body : SDen) : SDen := sbind src fun ds => sloop bind body ds
theorem ds_forP {src : Den (List D)} (hp : PassesOwn (model X.prog X.w) X.A X.env X.xe) (hc : X.calm = true) (hi : DPI X W tg iter src) (hg : DG X tg bind sl) (hb : DSs X W body db) (hs : ∀ x, foldedSetIterable iter X.env x = pure x := by intro _; rfl) :
    DS X W (.For tg iter body [] pos) (sforP src bind db) := ⟨ps_weak (ps_for hp hc hi.run hg.run hb.run hs) fun D0 σ H q => by
  obtain ⟨c, F, e, ts, R, q⟩ := q
  refine ⟨c, F, e, ts, R, q.sbind (rel := relJ) fun F1 H1 e1 ds J ef hr q1 => ?_⟩
  obtain ⟨R1, P, S, hP⟩ := hr
  exact loop_ok S (fun F' H' σ' e' ef' R' => hP F' H' ef' R'.fh) R1 q1⟩

/-! ### list comprehensions -/
def W0 : WX := fun _ _ _ _ => False
/-- the block's own slots are empty at a turn's start -/
def wipeE (e : Env) : List Nat → Env
  | [] => e
  | v :: vs => (wipeE e vs).set v none
/-- the slots as they were: frozen ones alone -/
def wiped (e : Env) (vs : List Nat) : Bool := vs.all fun v => match e[v]? with
  | some none => true
  | some (some (_, .im _)) => true
  | _ => false
def restE (e e' : Env) : List Nat → Env
  | [] => e'
  | v :: vs => (restE e e' vs).set v (e[v]?.getD none)
def cloop (bind : D → Env → Option Env) (tt : Den Bool) (elt : Den Rv) (vs : List Nat) : List D → List O → Env → Option (Res (List O))
  | [], acc, e => some (.ok false e acc)
  | d :: ds, acc, e => match bind d e with
    | none => none
    | some e1 => match tt e1 with
      | some (.ok m1 e2 false) => Res.more (α := Bool) m1 (cloop bind tt elt vs ds acc (wipeE e2 vs))
      | some (.ok m1 e2 true) => match elt e2 with
        | some (.ok m2 e3 rv) => match rvO rv e3 with
          | some (.ok _ e4 o) => if acc.length < sizeLine then Res.more (α := Bool) (m1 || m2) (cloop bind tt elt vs ds (acc ++ [o]) (wipeE e4 vs)) else none
          | _ => none
        | _ => none
      | _ => none
def dcomp (src : Den (List D)) (bind : D → Env → Option Env) (tt : Den Bool) (elt : Den Rv) (vs : List Nat) : Den Rv := dbind src fun ds e => if wiped e vs = true then (match cloop bind tt elt vs ds [] (wipeE e vs) with
  | some (.ok m e' os) => some (.ok m (restE e e' vs) (.new (.lst os)))
  | _ => none) else none
structure DTs (X : Cx) (W : WX) (ifs : List Expr) (den : Den Bool) : Prop where
  run : PTs X ifs (rd relB X.B W den)
theorem pts_weak {ifs : List Expr} {t t' : TT} (h : PTs X ifs t) (k : ∀ σ H Q, t' σ H Q → t σ H Q) : PTs X ifs t' := ⟨fun pins s σ H Q I q => h.run pins s σ H Q I (k σ H Q q)⟩
theorem dts_nil : DTs X W [] (dpure true) := ⟨pts_weak pts_nil fun σ H Q q => by
  obtain ⟨c, F, e, ts, R, q⟩ := q
  exact At.pure (a := true) q F H true (Ex.refl _) (Ex.refl _) ⟨R, rfl⟩⟩
end
section
variable {K : KB} {c : Ctx} {F H : Hp} {σ : L2.St} {e : Env} {ts : List (V × O)}
theorem RE.clr {i : Nat} {x : Option V} (R : RE K c F H σ e ts) (h : e[i]? = some none ∨ ∃ b o, e[i]? = some (some (b, o))) : RE K c F H σ (e.set i none) ts := by
  rcases h with h | ⟨b, o, h⟩
  · have : e.set i none = e := by
      have := (List.getElem?_eq_some_iff.mp h)
      obtain ⟨h1, h2⟩ := this
      conv => rhs; rw [← List.set_getElem_self h1, h2]
    rw [this]
    exact R
  · exact R.clear h
theorem Slots.forget : ∀ {e : Env} {σ σ0 : L2.St} {hs : List (V × O)} {i : Nat}, Slots e σ σ0 hs → e[i]? = some none → ∀ x, Slots e (σ.set i x) σ0 hs
  | [], σ, σ0, hs, i, h, he, x => by simp at he
  | none :: e, σ, σ0, hs, 0, h, he, x => by
    obtain ⟨y, r, e1, h1⟩ := h
    subst e1
    exact ⟨x, r, rfl, h1⟩
  | some q :: e, σ, σ0, hs, 0, h, he, x => by simp at he
  | none :: e, σ, σ0, hs, i + 1, h, he, x => by
    obtain ⟨y, r, e1, h1⟩ := h
    subst e1
    exact ⟨y, r.set i x, rfl, Slots.forget h1 (by simpa using he) x⟩
  | some q :: e, σ, σ0, hs, i + 1, h, he, x => by
    obtain ⟨v, r, hr, e1, hb, e2, h1⟩ := h
    subst e1
    exact ⟨v, r.set i x, hr, rfl, hb, e2, Slots.forget h1 (by simpa using he) x⟩
theorem RE.forget {i : Nat} (R : RE K c F H σ e ts) (h : e[i]? = some none) (x : Option V) : RE K c F H (σ.set i x) e ts := by
  obtain ⟨hs, fs, h1, h2, h3, h4⟩ := R.hd
  exact ⟨R.g, R.f0, R.fh, R.nw, hs, fs, h1.forget h x, h2, h3, h4⟩
theorem wipeE_len (e : Env) : ∀ vs : List Nat, (wipeE e vs).length = e.length
  | [] => rfl
  | v :: vs => by unfold wipeE; rw [List.length_set, wipeE_len e vs]
theorem RE.len (R : RE K c F H σ e ts) : σ.length = e.length := by
  obtain ⟨hs, fs, h1, _⟩ := R.hd
  exact h1.len
theorem RE.wipe (R : RE K c F H σ e ts) : ∀ vs : List Nat, (∀ v ∈ vs, v < e.length) → RE K c F H (L2.wipe σ vs) (wipeE e vs) ts
  | [], _ => R
  | v :: vs, hv => by
    have R1 := RE.wipe R vs (fun w hw => hv w (List.mem_cons_of_mem _ hw))
    have hl : v < (wipeE e vs).length := by rw [wipeE_len]; exact hv v List.mem_cons_self
    have R2 : RE K c F H (L2.wipe σ vs) ((wipeE e vs).set v none) ts := by
      cases q : (wipeE e vs)[v]? with
      | none => exact absurd (List.getElem?_eq_none_iff.mp q) (by omega)
      | some s =>
        cases s with
        | none => exact R1.clr (x := none) (.inl q)
        | some s => obtain ⟨b, o⟩ := s; exact R1.clr (x := none) (.inr ⟨b, o, q⟩)
    exact R2.forget (List.getElem?_set_self hl) none
theorem Slots.ext : ∀ {e : Env} {σ τ σ0 : L2.St} {hs : List (V × O)}, Slots e σ σ0 hs → σ.length = τ.length → (∀ (j : Nat) (q : Bool × O), e[j]? = some (some q) → τ[j]? = σ[j]?) → Slots e τ σ0 hs
  | [], σ, τ, σ0, hs, h, hl, k => by
    obtain ⟨e1, e2⟩ := h
    subst e1
    exact ⟨List.length_eq_zero_iff.mp hl.symm, e2⟩
  | none :: e, σ, τ, σ0, hs, h, hl, k => by
    obtain ⟨x, r, e1, h1⟩ := h
    subst e1
    cases τ with
    | nil => simp at hl
    | cons y t => exact ⟨y, t, rfl, Slots.ext h1 (by simpa using hl) fun j q hj => by simpa using k (j + 1) q (by simpa using hj)⟩
  | some q :: e, σ, τ, σ0, hs, h, hl, k => by
    obtain ⟨v, r, hr, e1, hb, e2, h1⟩ := h
    subst e1
    cases τ with
    | nil => simp at hl
    | cons y t =>
      have hy : y = some v := by simpa using k 0 q rfl
      subst hy
      exact ⟨v, t, hr, rfl, hb, e2, Slots.ext h1 (by simpa using hl) fun j q hj => by simpa using k (j + 1) q (by simpa using hj)⟩
theorem wipe_out (σ : L2.St) : ∀ (vs : List Nat) (j : Nat), j ∉ vs → (L2.wipe σ vs)[j]? = σ[j]?
  | [], j, _ => rfl
  | v :: vs, j, h => by
    unfold L2.wipe
    rw [List.getElem?_set_ne (fun z => h (by rw [← z]; exact List.mem_cons_self))]
    exact wipe_out σ vs j fun z => h (List.mem_cons_of_mem _ z)
theorem RE.awake {vs : List Nat} (R : RE K c F H (L2.wipe σ vs) e ts) (hn : ∀ v ∈ vs, e[v]? = some none) : RE K c F H σ e ts := by
  obtain ⟨hs, fs, h1, h2, h3, h4⟩ := R.hd
  refine ⟨R.g, R.f0, R.fh, R.nw, hs, fs, h1.ext (L2.wipe_length σ vs) fun j q hj => ?_, h2, h3, h4⟩
  refine (wipe_out σ vs j fun z => ?_).symm
  rw [hn j z] at hj
  cases hj
/-- what the block forgot is there again -/
theorem RE.unwipe {e' : Env} {F' H' : Hp} {ts' : List (V × O)} (R0 : RE K c F H σ e ts) (ef : Ex F F') : ∀ vs : List Nat, vs.Nodup → wiped e vs = true → RE K c F' H' σ e' ts' → (∀ v ∈ vs, e'[v]? = some none) → RE K c F' H' σ (restE e e' vs) ts' ∧ ∀ j, j ∉ vs → (restE e e' vs)[j]? = e'[j]?
  | [], _, _, R, _ => ⟨R, fun _ _ => rfl⟩
  | v :: vs, nd, hw, R, hn => by
    obtain ⟨n1, n2⟩ := List.nodup_cons.mp nd
    unfold wiped at hw
    rw [List.all_cons, Bool.and_eq_true] at hw
    obtain ⟨R1, k1⟩ := RE.unwipe R0 ef vs n2 hw.2 R (fun w hwm => hn w (List.mem_cons_of_mem _ hwm))
    have hv : (restE e e' vs)[v]? = some none := by rw [k1 v n1]; exact hn v List.mem_cons_self
    refine ⟨?_, fun j hj => ?_⟩
    · unfold restE
      cases q : e[v]? with
      | none => rw [q] at hw; cases hw.1
      | some s =>
        cases s with
        | none =>
          show RE K c F' H' σ ((restE e e' vs).set v none) ts'
          exact R1.clr (x := none) (.inl hv)
        | some s =>
          obtain ⟨b, o⟩ := s
          cases o with
          | im d =>
            obtain ⟨w, hw2, hb, _⟩ := R0.out q
            obtain ⟨w', hw3, hrep⟩ := R0.slotIm q
            rw [hw2] at hw3
            cases hw3
            exact (R1.imT (Rep.mono ef _ _ hrep)).inn hv hw2 hb
          | _ => rw [q] at hw; cases hw.1
    · unfold restE
      rw [List.getElem?_set_ne (fun z => hj (by rw [← z]; exact List.mem_cons_self))]
      exact k1 j fun z => hj (List.mem_cons_of_mem _ z)
theorem wipeE_in (e : Env) : ∀ (vs : List Nat), (∀ v ∈ vs, v < e.length) → ∀ v ∈ vs, (wipeE e vs)[v]? = some none
  | [], _, v, h => by cases h
  | w :: vs, hl, v, h => by
    unfold wipeE
    by_cases q : w = v
    · subst q
      exact List.getElem?_set_self (by rw [wipeE_len]; exact hl w List.mem_cons_self)
    · rw [List.getElem?_set_ne q]
      rcases List.mem_cons.mp h with z | z
      · exact absurd z.symm q
      · exact wipeE_in e vs (fun u hu => hl u (List.mem_cons_of_mem _ hu)) v z
theorem wiped_lt {e : Env} {vs : List Nat} (h : wiped e vs = true) : ∀ v ∈ vs, v < e.length := fun v hv => by
  unfold wiped at h
  have := List.all_eq_true.mp h v hv
  cases q : e[v]? with
  | none => rw [q] at this; cases this
  | some s => exact (List.getElem?_eq_some_iff.mp q).1
theorem wipe_in (σ : L2.St) : ∀ (vs : List Nat) (j : Nat), j ∈ vs → j < σ.length → (L2.wipe σ vs)[j]? = some none
  | [], j, h, _ => by cases h
  | w :: vs, j, h, hl => by
    unfold L2.wipe
    by_cases q : w = j
    · subst q
      exact List.getElem?_set_self (by rw [L2.wipe_length]; exact hl)
    · rw [List.getElem?_set_ne q]
      rcases List.mem_cons.mp h with z | z
      · exact absurd z.symm q
      · exact wipe_in σ vs j z hl
theorem wipe_off {sl vs : List Nat} {σ σ' : L2.St} (h : Off sl (L2.wipe σ vs) σ') (hs : ∀ i ∈ sl, i ∈ vs) : L2.wipe σ' vs = L2.wipe σ vs := by
  refine List.ext_getElem? fun j => ?_
  have hl : σ'.length = σ.length := h.1.trans (L2.wipe_length σ vs)
  by_cases hj : j ∈ vs
  · by_cases hlt : j < σ.length
    · rw [wipe_in σ' vs j hj (by omega), wipe_in σ vs j hj hlt]
    · rw [List.getElem?_eq_none_iff.mpr (by rw [L2.wipe_length]; omega), List.getElem?_eq_none_iff.mpr (by rw [L2.wipe_length]; omega)]
  · rw [wipe_out σ' vs j hj, h.2 j fun z => hj (hs j z)]
theorem more_ok {α β : Type} {m : Bool} {x : Option (Res β)} {m' : Bool} {e' : Env} {b : β} (h : Res.more (α := α) m x = some (.ok m' e' b)) : ∃ m2, x = some (.ok m2 e' b) ∧ m' = (m || m2) := by
  cases x with
  | none => cases h
  | some r =>
    cases r with
    | ok m2 e2 b2 => cases h; exact ⟨m2, rfl, rfl⟩
    | err m2 e2 x => cases h
end
section
variable {X : Cx} {tg iter elt : Expr} {ifs : List Expr} {scope : Scope} {own : List (Str × Nat)} {pos : Pos} {src : Den (List D)} {bind : D → Env → Option Env} {sl : List Nat} {tt : Den Bool} {de : Den Rv} {W : WX}
/-- the comprehension's reading, from its denotation -/
theorem comp_rd {vs : List Nat} {σ : L2.St} {H : Hp} {Q : VK} (nd : vs.Nodup) (hsl : ∀ i ∈ sl, i ∈ vs) (q : rd relR X.B W (dcomp src bind tt de vs) σ H Q) :
    tLc (rd relJ X.B W src) (tgR X.B bind sl) (rd relB X.B W0 tt) (rd relR X.B W0 de) vs σ H Q := by
  obtain ⟨c, F, e, ts, R, q⟩ := q
  refine ⟨c, F, e, ts, R, q.bind (rel := relJ) fun F1 H1 e1 ds J ef hr q1 => ?_⟩
  obtain ⟨R1, P, S, hP⟩ := hr
  intro Dl hD
  obtain ⟨r, hr2, post⟩ := q1
  dsimp only at hr2
  split at hr2
  · rename_i hw
    cases hcl : cloop bind tt de vs ds [] (wipeE e1 vs) with
    | none => rw [hcl] at hr2; cases hr2
    | some r1 =>
      rw [hcl] at hr2
      cases r1 with
      | err m e' x => cases hr2
      | ok m e' os =>
        cases hr2
        have hlt := wiped_lt hw
        have R2 : RE X.B c F1 (upd H1 Dl (.lst [])) (L2.wipe σ vs) (wipeE e1 vs) ((.ref Dl, .lst []) :: ts) := (R1.newO (u := .lst []) (o := .lst []) hD ⟨Dl, [], [], rfl, rfl, upd_same, ⟨rfl, rfl⟩⟩).wipe vs hlt
        refine ⟨fun i k H => ∃ mm m1 F2 e2 os2, (mm = false → Ex H1 H) ∧ Ex F1 F2 ∧ RE X.B c F2 H (L2.wipe σ vs) e2 ((.ref Dl, .lst os2) :: ts) ∧ (∀ v ∈ vs, e2[v]? = some none) ∧ cloop bind tt de vs (ds.drop i) os2 e2 = some (.ok m1 e' os) ∧ m = (mm || m1) ∧ k + i = ds.length,
          ⟨ds.length, false, m, F1, _, [], fun _ => Ex.new hD, Ex.refl _, R2, wipeE_in e1 vs hlt, hcl, by simp, by omega⟩, ?_⟩
        rintro i k H2 ⟨mm, m1, F2, e2, os2, hex, ef2, R3, hn, hc2, hm, hk⟩
        obtain ⟨xs, p1, hrs⟩ := hP F2 H2 ef2 R3.fh
        have hlen := hrs.length
        by_cases hi : i < xs.length
        · refine .inr ⟨S.go i xs H2 p1 hi, fun H' => ∃ mm m1 F2 e2 os2, (mm = false → Ex H1 H') ∧ Ex F1 F2 ∧ RE X.B c F2 H' (L2.wipe σ vs) e2 ((.ref Dl, .lst os2) :: ts) ∧ (∀ v ∈ vs, e2[v]? = some none) ∧ cloop bind tt de vs (ds.drop (i + 1)) os2 e2 = some (.ok m1 e' os) ∧ m = (mm || m1),
            fun H' ⟨mm, m1, F3, e3, os3, a1, a2, a3, a4, a5, a6⟩ => ⟨k - 1, by omega, mm, m1, F3, e3, os3, a1, a2, a3, a4, a5, a6, by omega⟩, ?_⟩
          intro x H' hy
          obtain ⟨rfl, hx⟩ := S.yld i xs H2 x H' p1 hi hy
          obtain ⟨d, hd, hrep⟩ := hrs.getV i hx
          have hdrop : ds.drop i = d :: ds.drop (i + 1) := by
            have hl : i < ds.length := by omega
            rw [List.drop_eq_getElem_cons hl]
            have := (List.getElem?_eq_some_iff.mp hd).2
            rw [this]
          rw [hdrop] at hc2
          unfold cloop at hc2
          cases hb : bind d e2 with
          | none => rw [hb] at hc2; cases hc2
          | some e3 =>
            rw [hb] at hc2
            dsimp only at hc2
            refine ⟨c, F2, e2, (.ref Dl, .lst os2) :: ts, d, e3, R3, hrep, hb, fun σ' R4 hoff => ⟨wipe_off hoff hsl, c, F2, e3, (.ref Dl, .lst os2) :: ts, R4, ?_⟩⟩
            have hwo := wipe_off hoff hsl
            cases htt : tt e3 with
            | none => rw [htt] at hc2; cases hc2
            | some r2 =>
              rw [htt] at hc2
              cases r2 with
              | err m e x => cases hc2
              | ok mt e4 bt =>
                refine ⟨_, htt, fun F4 H4 bt' ef4 eh4 hrel => ?_⟩
                obtain ⟨R5, rfl⟩ := hrel
                have hlen5 : e4.length = σ.length := R5.len.symm.trans (hoff.1.trans (L2.wipe_length σ vs))
                have hlt5 : ∀ v ∈ vs, v < e4.length := fun v hv => by
                  rw [hlen5, R1.len]
                  exact hlt v hv
                cases bt with
                | false =>
                  refine iteF ?_
                  dsimp only at hc2
                  obtain ⟨m2, hc3, hm2⟩ := more_ok hc2
                  have R6 := R5.wipe vs hlt5
                  rw [hwo] at R6
                  refine ⟨mm || mt, m2, F4, wipeE e4 vs, os2, fun z => (hex (or_l z)).trans (eh4 (or_r z)), ef2.trans ef4, R6, wipeE_in e4 vs hlt5, hc3, ?_⟩
                  rw [hm, hm2, Bool.or_assoc]
                | true =>
                  refine iteT ⟨c, F4, e4, (.ref Dl, .lst os2) :: ts, R5, ?_⟩
                  dsimp only at hc2
                  cases hde : de e4 with
                  | none => rw [hde] at hc2; cases hc2
                  | some r3 =>
                    rw [hde] at hc2
                    cases r3 with
                    | err m e x => cases hc2
                    | ok md e5 rv =>
                      refine ⟨_, hde, fun F5 H5 y ef5 eh5 hrel => ?_⟩
                      dsimp only at hc2
                      cases hrv : rvO rv e5 with
                      | none => rw [hrv] at hc2; cases hc2
                      | some r4 =>
                        rw [hrv] at hc2
                        cases r4 with
                        | err m e x => cases hc2
                        | ok mo e6 o =>
                          dsimp only at hc2
                          split at hc2
                          · rename_i hz
                            obtain ⟨m2, hc3, hm2⟩ := more_ok hc2
                            -- the value as a temporary
                            have tmp : ∃ F6, Ex F5 F6 ∧ RE X.B c F6 H5 σ' e6 ((y, o) :: (.ref Dl, .lst os2) :: ts) := by
                              cases rv with
                              | im d => cases hrv; exact ⟨F5, Ex.refl _, hrel.1.imT hrel.2⟩
                              | new o' => cases hrv; exact ⟨F5, Ex.refl _, hrel⟩
                              | bor i2 o' =>
                                obtain ⟨R7, hv7, b7, hb7⟩ := hrel
                                unfold rvO at hrv
                                dsimp only at hrv
                                rw [hb7] at hrv
                                cases hrv
                                obtain ⟨F6, w, e7, hw7, R8, hrep8⟩ := R7.freezeS hb7
                                rw [hv7] at hw7
                                cases hw7
                                exact ⟨F6, e7, R8.imT hrep8⟩
                            obtain ⟨F6, ef6, R6⟩ := tmp
                            obtain ⟨l, xs', el, hl, hlen', R7⟩ := (R6.perm (List.Perm.swap _ _ _)).push
                            cases el
                            have hlen6 : e6.length = σ.length := R6.len.symm.trans (hoff.1.trans (L2.wipe_length σ vs))
                            have hlt6 : ∀ v ∈ vs, v < e6.length := fun v hv => by
                              rw [hlen6, R1.len]
                              exact hlt v hv
                            have R8 := R7.wipe vs hlt6
                            rw [hwo] at R8
                            refine ⟨xs', hl, by rw [← hlen']; exact hz, mm || (mt || md), m2, F6, wipeE e6 vs, os2 ++ [o], fun z => ?_, ((ef2.trans ef4).trans ef5).trans ef6, R8, wipeE_in e6 vs hlt6, hc3, ?_⟩
                            · have z1 := hex (or_l z)
                              have z2 := eh4 (or_l (or_r z))
                              have z3 := eh5 (or_r (or_r z))
                              exact ((z1.trans z2).trans z3).mut hD
                            · rw [hm, hm2]
                              simp only [Bool.or_assoc]
                          · cases hc2
        · refine .inl ⟨S.stop i xs H2 p1 (by omega), ?_⟩
          have hdrop : ds.drop i = [] := List.drop_eq_nil_of_le (by omega)
          rw [hdrop] at hc2
          cases hc2
          obtain ⟨R4, _⟩ := RE.unwipe R1 ef2 vs nd hw (R3.awake hn) hn
          exact post F2 H2 (.ref Dl) ef2 (fun z => hex (by rw [hm] at z; exact or_l z)) R4
  · cases hr2
theorem de_comp (hc : X.calm = true) (hN : X.N.Nodup) (hi : DPI X W tg iter src) (ok : BlkOk X.N X.env.scope scope own) (nd : (own.map (·.2)).Nodup) (hsl : ∀ i ∈ sl, i ∈ own.map (·.2))
    (hg : ∀ (s : Shared) (H : Hp) (C : Addr) (cl : List (Str × Addr)) (fp : List Addr), DG (X.blk s H scope (compEnvC scope cl C X.env) fp) tg bind sl) (ht : ∀ (s : Shared) (H : Hp) (C : Addr) (cl : List (Str × Addr)) (fp : List Addr), DTs (X.blk s H scope (compEnvC scope cl C X.env) fp) W0 ifs tt)
    (he : ∀ (s : Shared) (H : Hp) (C : Addr) (cl : List (Str × Addr)) (fp : List Addr), DE (X.blk s H scope (compEnvC scope cl C X.env) fp) W0 elt de) (hs : ∀ x, foldedSetIterable iter X.env x = pure x := by intro _; rfl) :
    DE X W (.ListComp elt [⟨tg, iter, ifs, 0⟩] scope pos) (dcomp src bind tt de (own.map (·.2))) :=
  ⟨pe_weak (pe_lc hc hN hi.run ok (fun s H C cl fp => (hg s H C cl fp).run) (fun s H C cl fp => (ht s H C cl fp).run) (fun s H C cl fp => (he s H C cl fp).run) hs) fun σ H Q q => comp_rd nd hsl q⟩
end
end DL

/-! DLK: items, slices, fields, built-in calls. -/
namespace DL
open PySem PySem.Spec PyProof.Rows L2 Evl

/-! ### a value that is looked into: frozen, or a slot's -/
def ar1 (d : Den Rv) : Den AR := dbind d fun r => dpure (darg r)
/-! ### items -/
@[simp] def elemD : D → D → Option D
  | .tup ds, .int i => atI ds i
  | .wtp ds, .int i => atI ds i
  | .lst ds, .int i => atI ds i
  | .scr ds, .int i => atI ds i
  | .str z, .int i => if z.length ≤ sizeLine then (atI z.cps.toList i).map fun c => .str ⟨#[c]⟩ else none
  | _, _ => none
@[simp] def imO : O → Option D
  | .im d => some d
  | _ => none
def slotO (e : Env) (i : Nat) : Option O := match e[i]? with
  | some (some (_, o)) => some o
  | _ => none
theorem atI_reps {K : KB} {F : Hp} {ds : List D} {xs : List V} {i : Int} {d : D} (h : Reps K F ds xs) (e : atI ds i = some d) : ∃ x, atI xs i = some x ∧ Rep K F d x := by
  unfold atI at e ⊢
  rw [h.length] at e
  obtain ⟨j, hj, e2⟩ := Option.bind_eq_some_iff.mp e
  obtain ⟨x, hx, hr⟩ := h.get j e2
  exact ⟨x, by rw [hj]; exact hx, hr⟩
theorem elemD_ok {K : KB} {F H : Hp} {d i x : D} {v u : V} {Q : VK} (fh : Ex F H) (h : Rep K F d v) (hi : Rep K F i u) (e : elemD d i = some x) (k : ∀ w, Rep K F x w → Q w H) : rIx K v u H Q := by
  unfold elemD at e
  split at e
  · obtain ⟨a, xs, rfl, h1, h2⟩ := h
    obtain ⟨w, hw, hr⟩ := atI_reps h2 e
    exact .inr (.inl ⟨a, xs, _, w, rfl, hi, ex_t fh h1, hw, k w hr⟩)
  · obtain ⟨a, xs, rfl, h1, h2⟩ := h
    obtain ⟨w, hw, hr⟩ := atI_reps h2 e
    exact .inr (.inl ⟨a, xs, _, w, rfl, hi, ex_t fh h1, hw, k w hr⟩)
  · obtain ⟨a, xs, rfl, h1, h2⟩ := h
    obtain ⟨w, hw, hr⟩ := atI_reps h2 e
    exact .inl ⟨a, xs, _, w, rfl, hi, SqL.of (fh _ _ h1), hw, k w hr⟩
  · obtain ⟨a, xs, rfl, h1, h2⟩ := h
    obtain ⟨w, hw, hr⟩ := atI_reps h2 e
    exact .inl ⟨a, xs, _, w, rfl, hi, ex_l fh h1, hw, k w hr⟩
  · split at e
    · rename_i hz
      obtain ⟨cc, hc, e2⟩ := Option.map_eq_some_iff.mp e
      subst e2
      exact .inr (.inr ⟨_, _, cc, h, hi, hz, hc, k _ rfl⟩)
    · cases e
  · cases e
section
variable {X : Cx} {W : WX} {a b ex : Expr} {pos p : Pos} {da : Den Rv} {di : Den D}
/-! ### fields -/
/-! ### built-in calls over what is seen -/
@[simp] def lenD : List D → Option D
  | [.str z] => if z.length ≤ sizeLine then some (.int z.length) else none
  | [.tup ds] => some (.int ds.length)
  | [.wtp ds] => some (.int ds.length)
  | [.lst ds] => some (.int ds.length)
  | [.scr ds] => some (.int ds.length)
  | _ => none
theorem reps1 {K : KB} {F : Hp} {d : D} {xs : List V} (h : Reps K F [d] xs) : ∃ v, xs = [v] ∧ Rep K F d v := by
  obtain ⟨x, r, rfl, h1, h2⟩ := h
  exact ⟨x, by rw [show r = [] from h2], h1⟩
theorem reps2 {K : KB} {F : Hp} {d d2 : D} {xs : List V} (h : Reps K F [d, d2] xs) : ∃ v v2, xs = [v, v2] ∧ Rep K F d v ∧ Rep K F d2 v2 := by
  obtain ⟨x, r, rfl, h1, h2⟩ := h
  obtain ⟨y, rfl, h3⟩ := reps1 h2
  exact ⟨x, y, rfl, h1, h3⟩
theorem ok_len : CallOkV X.B (fun xs H Q => ∃ x n, xs = [x] ∧ LenV X.B x H n ∧ Q (.int n) H) lenD := by
  intro H xs ds d h hg
  unfold lenD at hg
  split at hg
  · split at hg
    · rename_i hz
      cases hg
      obtain ⟨v, rfl, h1⟩ := reps1 h
      exact ⟨.int _, fun _ => rfl, fun Q q => ⟨v, _, rfl, by rw [show v = V.str _ from h1]; exact ⟨hz, rfl⟩, q⟩⟩
    · cases hg
  · cases hg
    obtain ⟨v, rfl, a, ys, rfl, h1, h2⟩ := reps1 h
    exact ⟨.int _, fun _ => rfl, fun Q q => ⟨_, _, rfl, .inr ⟨ys, h1, h2.length⟩, q⟩⟩
  · cases hg
    obtain ⟨v, rfl, a, ys, rfl, h1, h2⟩ := reps1 h
    exact ⟨.int _, fun _ => rfl, fun Q q => ⟨_, _, rfl, .inr ⟨ys, h1, h2.length⟩, q⟩⟩
  · cases hg
    obtain ⟨v, rfl, a, ys, rfl, h1, h2⟩ := reps1 h
    exact ⟨.int _, fun _ => rfl, fun Q q => ⟨_, _, rfl, .inl ⟨ys, SqL.of h1, h2.length⟩, q⟩⟩
  · cases hg
    obtain ⟨v, rfl, a, ys, rfl, h1, h2⟩ := reps1 h
    exact ⟨.int _, fun _ => rfl, fun Q q => ⟨_, _, rfl, .inl ⟨ys, h1, h2.length⟩, q⟩⟩
  · cases hg
@[simp] def absD : List D → Option D
  | [.int i] => some (.int (if i < 0 then -i else i))
  | _ => none
theorem ok_abs {K : KB} : CallOkV K (fun xs H Q => ∃ i, xs = [.int i] ∧ Q (.int (if i < 0 then -i else i)) H) absD := by
  intro H xs ds d h hg
  unfold absD at hg
  split at hg
  · cases hg
    exact ⟨.int _, fun _ => rfl, fun Q q => ⟨_, reps_int h, q⟩⟩
  · cases hg
@[simp] def minD : List D → Option D
  | [.int i, .int j] => some (.int (if j < i then j else i))
  | _ => none
@[simp] def maxD : List D → Option D
  | [.int i, .int j] => some (.int (if j > i then j else i))
  | _ => none
theorem ok_min {K : KB} : CallOkV K (fun xs H Q => ∃ i j, xs = [.int i, .int j] ∧ Q (.int (if j < i then j else i)) H) minD := by
  intro H xs ds d h hg
  unfold minD at hg
  split at hg
  · cases hg
    exact ⟨.int _, fun _ => rfl, fun Q q => ⟨_, _, reps_int2 h, q⟩⟩
  · cases hg
@[simp] def intD : List D → Option D
  | [.int i] => some (.int i)
  | [.bl k] => some (.int (if k then 1 else 0))
  | _ => none
theorem ok_int {K : KB} : CallOkV K (fun xs H Q => (∃ i, xs = [.int i] ∧ Q (.int i) H) ∨ ∃ k, xs = [.bl k] ∧ Q (.int (if k then 1 else 0)) H) intD := by
  intro H xs ds d h hg
  unfold intD at hg
  split at hg
  · cases hg
    exact ⟨.int _, fun _ => rfl, fun Q q => .inl ⟨_, reps_int h, q⟩⟩
  · cases hg
    obtain ⟨v, rfl, h1⟩ := reps1 h
    exact ⟨.int _, fun _ => rfl, fun Q q => .inr ⟨_, by rw [show v = V.bl _ from h1], q⟩⟩
  · cases hg
@[simp] def strD : List D → Option D
  | [.int i] => if i.natAbs.log2 < 1920 then some (.str (toString i)) else none
  | _ => none
theorem ok_str {K : KB} : CallOkV K (fun xs H Q => ∃ i, xs = [.int i] ∧ i.natAbs.log2 < 1920 ∧ Q (.str (toString i)) H) strD := by
  intro H xs ds d h hg
  unfold strD at hg
  split at hg
  · split at hg
    · rename_i hz
      cases hg
      exact ⟨.str _, fun _ => rfl, fun Q q => ⟨_, reps_int h, hz, q⟩⟩
    · cases hg
  · cases hg
/-- the ints of a list -/
def intsD : List D → Option (List Int)
  | [] => some []
  | .int i :: ds => (intsD ds).map fun is => i :: is
  | _ :: _ => none
theorem reps_ints {K : KB} {F : Hp} : ∀ {ds : List D} {xs : List V} {is : List Int}, Reps K F ds xs → intsD ds = some is → xs = is.map V.int
  | [], xs, is, h, e => by cases e; exact h
  | .int i :: ds, xs, is, h, e => by
    obtain ⟨x, r, rfl, h1, h2⟩ := h
    obtain ⟨js, hj, e2⟩ := Option.map_eq_some_iff.mp e
    subst e2
    rw [List.map_cons, ← reps_ints h2 hj, show x = V.int i from h1]
  | .any :: ds, xs, is, h, e => by cases e
  | .non :: ds, xs, is, h, e => by cases e
  | .bl _ :: ds, xs, is, h, e => by cases e
  | .str _ :: ds, xs, is, h, e => by cases e
  | .ty _ :: ds, xs, is, h, e => by cases e
  | .adr _ :: ds, xs, is, h, e => by cases e
  | .exc _ _ _ _ _ :: ds, xs, is, h, e => by cases e
  | .tup _ :: ds, xs, is, h, e => by cases e
  | .wtp _ :: ds, xs, is, h, e => by cases e
  | .lst _ :: ds, xs, is, h, e => by cases e
  | .scr _ :: ds, xs, is, h, e => by cases e
  | .dct _ _ :: ds, xs, is, h, e => by cases e
  | .ins _ _ _ :: ds, xs, is, h, e => by cases e
@[simp] def sumD : List D → Option D
  | [.lst ds] => (intsD ds).map fun is => .int is.sum
  | [.scr ds] => (intsD ds).map fun is => .int is.sum
  | _ => none
/-- isinstance against a built-in class -/
@[simp] def tyD : D → Option String
  | .non => some "NoneType"
  | .bl _ => some "bool"
  | .int _ => some "int"
  | .str _ => some "str"
  | .tup _ => some "tuple"
  | .lst _ => some "list"
  | _ => none
theorem tyT {K : PySem.W.Frag} {H : Hp} {a : Addr} {xs : List V} (h : SqT K H a xs) : TyX K H (.ref a) (.type "tuple") := by
  rcases h with (h | ⟨o, h⟩) | ⟨o, its, n, h1, h2, _⟩
  · exact .base (.tup h)
  · exact .fTuple h
  · exact .kTuple h1 h2
theorem tyD_ok {K : KB} {H : Hp} {d : D} {v : V} {t : String} (h : Rep K H d v) (e : tyD d = some t) : TyX K H v (.type t) := by
  cases d with
  | non => cases e; rw [show v = V.non from h]; exact .base .non
  | bl b => cases e; rw [show v = V.bl b from h]; exact .base (.bl b)
  | int b => cases e; rw [show v = V.int b from h]; exact .base (.int b)
  | str b => cases e; rw [show v = V.str b from h]; exact .base (.str b)
  | tup ds => cases e; obtain ⟨a, xs, rfl, h1, _⟩ := h; exact tyT h1
  | lst ds => cases e; obtain ⟨a, xs, rfl, h1, _⟩ := h; exact .base (.lst h1)
  | _ => cases e
@[simp] def isiD : List D → Option D
  | [d, .ty n] => (tyD d).bind fun t => (kitB t n).map D.bl
  | _ => none
theorem ok_isi {K : KB} : CallOkV K (rIsi K) isiD := by
  intro H xs ds d h hg
  unfold isiD at hg
  split at hg
  · obtain ⟨t, ht, hk⟩ := Option.bind_eq_some_iff.mp hg
    obtain ⟨b, hb, rfl⟩ := Option.map_eq_some_iff.mp hk
    obtain ⟨v, v2, rfl, h1, h2⟩ := reps2 h
    exact ⟨.bl b, fun _ => rfl, fun Q q => ⟨v, v2, _, _, b, rfl, by rw [show v2 = V.ty _ from h2]; exact .ty _, tyD_ok h1 ht, kit_ty hb, q⟩⟩
  · cases hg
/-- a built-in class's name -/
theorem di_ty {x : Str} {n : String} (hg : Gl X x) (hm : X.mg x = none) (hv : bootBuiltins x = some (.type n)) (hn : x ≠ "__name__" := by decide) (hd : (x == ("__debug__" : Str)) = false := by decide) : DI X W (.Name x pos) (dpure (.ty n)) := di_c (pe_bltn (v := .ty n) hg hm hv rfl hn hd) fun _ => rfl
/-- a constant of the module -/
theorem di_gint {x : Str} {i : Int} {t : Tok} (hg : Gl X x) (hm : X.mg x = some (.int i t)) (hd : (x == ("__debug__" : Str)) = false := by decide) : DI X W (.Name x pos) (dpure (.int i)) := di_c (pe_glob (v := .int i) hg hm ⟨t, rfl⟩ hd) fun _ => rfl
theorem di_gstr {x : Str} {i : Str} {t : Tok} (hg : Gl X x) (hm : X.mg x = some (.str i t)) (hd : (x == ("__debug__" : Str)) = false := by decide) : DI X W (.Name x pos) (dpure (.str i)) := di_c (pe_glob (v := .str i) hg hm ⟨t, rfl⟩ hd) fun _ => rfl
/-! ### list(x), tuple(x) -/
def seqA (a : AR) : Den (List D) := fun e => match a with
  | .im d => (seqD d).map fun x => Res.ok false e x
  | .bor k => ((slotO e k).bind seqO).map fun x => Res.ok false e x
variable {x : Str}
def dlist (da : Den Rv) : Den Rv := dbind (ar1 da) fun a => dbind (seqA a) fun ds => dpure (.new (.lst (ds.map O.im)))
/-- tuple(x) of a list: a new one; of a tuple: itself -/
def dtuple (da : Den Rv) : Den D := dbind (ar1 da) fun a e => match a with
  | .im (.lst ds) => some (.ok false e (.tup ds))
  | .im (.scr ds) => some (.ok false e (.tup ds))
  | .im (.tup ds) => some (.ok false e (.tup ds))
  | .im (.wtp ds) => some (.ok false e (.wtp ds))
  | .im _ => none
  | .bor k => match slotO e k with
    | some (.lst os) => (ims os).map fun ds => Res.ok false e (.tup ds)
    | _ => none
/-! ### x[i] = e -/
end
end DL

/-! DLL: what is owned, seen through: items and fields of what is nested; loops over it; tuples of what is owned. -/
namespace DL
open PySem PySem.Spec PyProof.Rows L2 Evl

/-- what stands there now, owned or frozen -/
def relW : Rel O V := fun K c F H σ e ts o v => RE K c F H σ e ts ∧ ∃ fs, Own K F H o v fs
structure DO (X : Cx) (W : WX) (ex : Expr) (den : Den O) : Prop where
  run : PE X ex (rd relW X.B W den)
def ow (d : Den Rv) : Den O := dbind d fun r => match r with
  | .im d => dpure (.im d)
  | .new o => dpure (.im o.flat)
  | .bor _ o => dpure o
def imD (d : Den O) : Den D := dbind d fun o => dlift (imO o)
def fl (d : Den O) : Den D := dbind d fun o => dpure o.flat
section
variable {X : Cx} {W : WX} {a b ex : Expr} {pos p : Pos} {da : Den Rv} {di : Den D}
theorem DE.o (h : DE X W ex da) : DO X W ex (ow da) := ⟨pe_weak h.run fun σ H Q q => by
  obtain ⟨c, F, e, ts, R, q⟩ := q
  refine ⟨c, F, e, ts, R, q.bind fun F1 H1 e1 x v ef hrel q2 => ?_⟩
  cases x with
  | im d => exact At.pure (a := O.im d) q2 F1 H1 v (Ex.refl _) (Ex.refl _) ⟨hrel.1, [], rfl, hrel.2⟩
  | new o =>
    obtain ⟨F3, e3, R3, h3⟩ := RE.freezeT hrel
    exact At.pure (a := O.im o.flat) q2 F3 H1 v e3 (Ex.refl _) ⟨R3, [], rfl, h3⟩
  | bor i o =>
    obtain ⟨R2, hv, b, hb⟩ := hrel
    obtain ⟨w, fs, hw, ho⟩ := R2.slot hb
    rw [hv] at hw
    cases hw
    exact At.pure (a := o) q2 F1 H1 v (Ex.refl _) (Ex.refl _) ⟨R2, fs, ho⟩⟩
theorem DO.i {d : Den O} (h : DO X W ex d) : DI X W ex (imD d) := ⟨pe_weak h.run fun σ H Q q => by
  obtain ⟨c, F, e, ts, R, q⟩ := q
  refine ⟨c, F, e, ts, R, q.bind (rel := relW) fun F1 H1 e1 x v ef hrel q2 => ?_⟩
  obtain ⟨d, hd, k⟩ := q2.lift
  cases x <;> cases hd
  exact k F1 H1 v (Ex.refl _) (Ex.refl _) ⟨hrel.1, hrel.2.choose_spec.2⟩⟩
theorem DO.v {d : Den O} (h : DO X W ex d) : DV X W ex (fl d) := ⟨pe_weak h.run fun σ H Q q => by
  obtain ⟨c, F, e, ts, R, q⟩ := q
  refine ⟨c, F, e, ts, R, q.bind (rel := relW) fun F1 H1 e1 x v ef hrel q2 => ?_⟩
  obtain ⟨R1, fs, ho⟩ := hrel
  exact At.pure (a := x.flat) q2 F1 H1 v (Ex.refl _) (Ex.refl _) ⟨R1, ho.view R1.fh⟩⟩
/-! ### items -/
@[simp] def elemOO : O → D → Option O
  | .lst os, .int i => atI os i
  | .tup os, .int i => atI os i
  | .im d, i => (elemD d i).map O.im
  | _, _ => none
def dixO (d : Den O) (di : Den D) : Den O := dbind d fun o => dbind (dq di) fun i => dlift (elemOO o i)
theorem atI_ownsO {K : KB} {F H : Hp} {os : List O} {xs : List V} {fs : List Addr} {i : Int} {o : O} (h : Owns K F H os xs fs) (e : atI os i = some o) : ∃ x f, atI xs i = some x ∧ Own K F H o x f := by
  unfold atI at e ⊢
  rw [h.length] at e
  obtain ⟨j, hj, e2⟩ := Option.bind_eq_some_iff.mp e
  have key : ∀ {os : List O} {xs : List V} {fs : List Addr} {j : Nat}, Owns K F H os xs fs → os[j]? = some o → ∃ x f, xs[j]? = some x ∧ Own K F H o x f := by
    intro os
    induction os with
    | nil => intro xs fs j _ z; simp at z
    | cons o0 os ih =>
      intro xs fs j h z
      obtain ⟨x, r, f1, f2, e1, _, h1, h2⟩ := h
      subst e1
      cases j with
      | zero =>
        have : o0 = o := by simpa using z
        subst this
        exact ⟨x, f1, rfl, h1⟩
      | succ j =>
        obtain ⟨y, f, hy, hr⟩ := ih h2 (by simpa using z)
        exact ⟨y, f, by simpa using hy, hr⟩
  obtain ⟨x, f, hx, hr⟩ := key h e2
  exact ⟨x, f, by rw [hj]; exact hx, hr⟩
theorem elemOO_ok {K : KB} {F H : Hp} {o x : O} {i : D} {v u : V} {fs : List Addr} {Q : VK} (fh : Ex F H) (h : Own K F H o v fs) (hi : Rep K F i u) (e : elemOO o i = some x) (k : ∀ w f, Own K F H x w f → Q w H) : rIx K v u H Q := by
  unfold elemOO at e
  split at e
  · obtain ⟨a, xs, r, rfl, _, h1, h2⟩ := h
    obtain ⟨w, f, hw, hr⟩ := atI_ownsO h2 e
    exact .inl ⟨a, xs, _, w, rfl, hi, SqL.of h1, hw, k w f hr⟩
  · obtain ⟨a, xs, r, rfl, _, h1, h2⟩ := h
    obtain ⟨w, f, hw, hr⟩ := atI_ownsO h2 e
    exact .inr (.inl ⟨a, xs, _, w, rfl, hi, SqT.of h1, hw, k w f hr⟩)
  · obtain ⟨d, hd, rfl⟩ := Option.map_eq_some_iff.mp e
    exact elemD_ok fh h.2 hi hd fun w hw => k w [] ⟨rfl, hw⟩
  · cases e
theorem do_ix {d : Den O} (ha : DO X W a d) (hb : DI X W b di) (hs : PlainIx b := by exact fun _ _ => rfl) : DO X W (.Subscript a b pos) (dixO d di) := ⟨pe_weak (pe_ix ix_seq ha.run hb.run hs) fun σ H Q q => by
  obtain ⟨c, F, e, ts, R, q⟩ := q
  refine ⟨c, F, e, ts, R, q.bind (rel := relW) fun F1 H1 e1 x v ef hr q1 => ⟨c, F1, e1, ts, hr.1, ?_⟩⟩
  have q2 := (q1.bind (rel := relI) (Q' := fun u H2 => Ex H1 H2 → rIx X.B v u H2 Q) fun F2 H2 e2 y u ef2 hr2 q2 ee => by
    obtain ⟨o, hd, k⟩ := q2.lift
    obtain ⟨fs, ho⟩ := hr.2
    exact elemOO_ok hr2.1.fh (Own.mono ef2 _ _ _ (fun p _ w z => ee p w z) ho) hr2.2 hd fun w f hw => k F2 H2 w (Ex.refl _) (Ex.refl _) ⟨hr2.1, f, hw⟩).quiet
  obtain ⟨rr, h1, post⟩ := q2
  refine ⟨rr, h1, ?_⟩
  cases rr with
  | err m e1 x => exact post
  | ok m e1 a => exact fun F' H' v' ef' eh hrel => let z := post F' H' v' ef' eh hrel; z.2 z.1 z.1⟩
/-! ### fields -/
def fldO (Cs : List Addr) (f : Str) : O → Option O
  | .im (.ins C ns ds) => if C ∈ Cs then ((ns.zip ds).lookup f).map O.im else none
  | .ins C ns os => if C ∈ Cs then (ns.zip os).lookup f else none
  | _ => none
/-! ### slices, of lists that come new, of tuples, of texts -/
structure DP (X : Cx) (W : WX) (ex : Option Expr) (den : Den (Option Int)) : Prop where
  run : PO X ex (rd (fun K c F H σ e ts (a b : Option Int) => RE K c F H σ e ts ∧ a = b) X.B W den)
theorem po_weak {ex : Option Expr} {t t' : TO} (h : PO X ex t) (k : ∀ σ H Q, t' σ H Q → t σ H Q) : PO X ex t' := ⟨fun pins s σ H Q I r => h.run pins s σ H Q I (k σ H Q r)⟩
theorem dp_none : DP X W none (dpure none) := ⟨po_weak po_none fun σ H Q q => by
  obtain ⟨c, F, e, ts, R, q⟩ := q
  exact At.pure (a := Option.none) q F H Option.none (Ex.refl _) (Ex.refl _) ⟨R, rfl⟩⟩
@[simp] def partD : D → Option (Option Int)
  | .int i => some (some i)
  | _ => none
theorem dp_some (h : DI X W ex di) : DP X W (some ex) (dbind di fun d => dlift (partD d)) := ⟨po_weak (po_some h.run) fun σ H Q q => by
  obtain ⟨c, F, e, ts, R, q⟩ := q
  refine ⟨c, F, e, ts, R, q.bind (rel := relI) fun F1 H1 e1 x v ef hr q1 => ?_⟩
  obtain ⟨o, hd, k⟩ := q1.lift
  cases x <;> cases hd
  exact ⟨_, hr.2, k F1 H1 _ (Ex.refl _) (Ex.refl _) ⟨hr.1, rfl⟩⟩⟩
def cutD (xs : List D) (lo hi : Option Int) : List D := (xs.drop (HT.sIx xs.length 0 lo)).take (HT.sIx xs.length xs.length hi - HT.sIx xs.length 0 lo)
theorem Reps.drop {K : KB} {F : Hp} : ∀ {ds : List D} {xs : List V} (n : Nat), Reps K F ds xs → Reps K F (ds.drop n) (xs.drop n)
  | ds, xs, 0, h => h
  | [], xs, n + 1, h => by rw [show xs = [] from h]; rfl
  | d :: ds, xs, n + 1, h => by
    obtain ⟨x, r, rfl, _, h2⟩ := h
    exact Reps.drop n h2
theorem Reps.take {K : KB} {F : Hp} : ∀ {ds : List D} {xs : List V} (n : Nat), Reps K F ds xs → Reps K F (ds.take n) (xs.take n)
  | ds, xs, 0, h => rfl
  | [], xs, n + 1, h => by rw [show xs = [] from h]; rfl
  | d :: ds, xs, n + 1, h => by
    obtain ⟨x, r, rfl, h1, h2⟩ := h
    exact ⟨x, r.take n, rfl, h1, Reps.take n h2⟩
theorem reps_cut {K : KB} {F : Hp} {ds : List D} {xs : List V} {lo hi : Option Int} (h : Reps K F ds xs) : Reps K F (cutD ds lo hi) (cutV xs lo hi) := by
  unfold cutD cutV
  rw [h.length]
  exact (h.drop _).take _
/-- a cut of what is seen: a list's is new -/
def cutO (o : O) (lo hi : Option Int) : Option Rv := match o with
  | .im (.lst ds) => some (.new (.lst ((cutD ds lo hi).map O.im)))
  | .im (.scr ds) => some (.new (.lst ((cutD ds lo hi).map O.im)))
  | .lst os => (ims os).map fun ds => .new (.lst ((cutD ds lo hi).map O.im))
  | .im (.tup ds) => some (.im (.tup (cutD ds lo hi)))
  | .im (.str z) => if z.length ≤ sizeLine then some (.im (.str (cutS z lo hi))) else none
  | _ => none
def rSl3 (K : KB) : V → Option Int → Option Int → Hp → VK → Prop := fun x lo hi H Q => rSlL K x lo hi H Q ∨ rSlA K x lo hi H Q ∨ rSlS x lo hi H Q
theorem sl3 : SlR X (rSl3 X.B) := sl_list.or (sl_tupA.or sl_str)
def dslice (d : Den O) (dl dh : Den (Option Int)) : Den Rv := dbind d fun o => dbind (dq dl) fun lo => dbind (dq dh) fun hi => dlift (cutO o lo hi)
theorem de_slice {d : Den O} {lo hi : Option Expr} {dl dh : Den (Option Int)} {p2 : Pos} (ha : DO X W a d) (hl : DP X W lo dl) (hh : DP X W hi dh) : DE X W (.Subscript a (.Slice lo hi none p2) pos) (dslice d dl dh) := ⟨pe_weak (pe_slice sl3 ha.run hl.run hh.run) fun σ H Q q => by
  obtain ⟨c, F, e, ts, R, q⟩ := q
  refine ⟨c, F, e, ts, R, q.bind (rel := relW) fun F1 H1 e1 x v ef hr q1 => ⟨c, F1, e1, ts, hr.1, ?_⟩⟩
  have q2 := (q1.bind (rel := (fun K c F H σ e ts (a b : Option Int) => RE K c F H σ e ts ∧ a = b)) (Q' := fun l H2 => Ex H1 H2 → rd (fun K c F H σ e ts (a b : Option Int) => RE K c F H σ e ts ∧ a = b) X.B W dh σ H2 fun u H3 => rSl3 X.B v l u H3 Q) fun F2 H2 e2 l l' ef2 hr2 q2 ee => by
    obtain ⟨R2, rfl⟩ := hr2
    refine ⟨c, F2, e2, ts, R2, ?_⟩
    have q3 := (q2.bind (rel := (fun K c F H σ e ts (a b : Option Int) => RE K c F H σ e ts ∧ a = b)) (Q' := fun u H3 => Ex H2 H3 → rSl3 X.B v l u H3 Q) fun F3 H3 e3 h h' ef3 hr3 q3 ee3 => by
      obtain ⟨R3, rfl⟩ := hr3
      obtain ⟨rv, hd, k⟩ := q3.lift
      obtain ⟨fs, ho⟩ := hr.2
      have ho3 : Own X.B F3 H3 x v fs := Own.mono (ef2.trans ef3) _ _ _ (fun p _ w z => (ee.trans ee3) p w z) ho
      have lst : ∀ {ds : List D} {a : Addr} {xs : List V}, v = .ref a → Reps X.B F3 ds xs → SqL X.B H3 a xs → rv = .new (.lst ((cutD ds l h).map O.im)) → rSl3 X.B v l h H3 Q := by
        intro ds a xs ev hrs hsq erv
        subst ev
        subst erv
        exact .inl ⟨a, xs, rfl, hsq, fun p hp => k F3 _ (.ref p) (Ex.refl _) (Ex.new hp) (R3.newO hp ⟨p, _, [], rfl, rfl, upd_same, owns_im (reps_cut hrs)⟩)⟩
      have tup : ∀ {ds : List D} {a : Addr} {xs : List V}, v = .ref a → Reps X.B F3 ds xs → SqT X.B F3 a xs → rv = .im (.tup (cutD ds l h)) → rSl3 X.B v l h H3 Q := by
        intro ds a xs ev hrs hsq erv
        subst ev
        subst erv
        refine .inr (.inl ⟨a, xs, rfl, ex_t R3.fh hsq, fun hw => k F3 H3 (.ref a) (Ex.refl _) (Ex.refl _) ⟨R3, a, xs, rfl, hsq, ?_⟩, fun hne p hp => k (upd F3 p (.tup (cutV xs l h))) _ (.ref p) (Ex.new (none_of_ex R3.fh hp)) (Ex.new hp) ⟨R3.newF hp, p, _, rfl, SqT.of upd_same, Reps.mono (Ex.new (none_of_ex R3.fh hp)) _ _ (reps_cut hrs)⟩⟩)
        have : cutD ds l h = ds := by
          unfold cutD
          rw [hrs.length, hw.1, hw.2, List.drop_zero, ← hrs.length]
          exact List.take_length
        rw [this]
        exact hrs
      unfold cutO at hd
      split at hd
      · cases hd
        obtain ⟨_, a, xs, ev, h1, h2⟩ := ho3
        exact lst ev h2 (SqL.of (R3.fh _ _ h1)) rfl
      · cases hd
        obtain ⟨_, a, xs, ev, h1, h2⟩ := ho3
        exact lst ev h2 (ex_l R3.fh h1) rfl
      · obtain ⟨ds, hz, e5⟩ := Option.map_eq_some_iff.mp hd
        have eo := ims_eq hz
        subst eo
        obtain ⟨a, xs, rr, ev, _, h1, h2⟩ := ho3
        exact lst ev (of_owns_im h2).1 (SqL.of h1) e5.symm
      · cases hd
        obtain ⟨_, a, xs, ev, h1, h2⟩ := ho3
        exact tup ev h2 h1 rfl
      · split at hd
        · rename_i hz
          cases hd
          exact .inr (.inr ⟨_, ho3.2, hz, k F3 H3 _ (Ex.refl _) (Ex.refl _) ⟨R3, rfl⟩⟩)
        · cases hd
      · cases hd).quiet
    obtain ⟨rr, h1, post⟩ := q3
    refine ⟨rr, h1, ?_⟩
    cases rr with
    | err m e1 x => exact post
    | ok m e1 a => exact fun F' H' v' ef' eh hrel => let z := post F' H' v' ef' eh hrel; z.2 z.1 z.1).quiet
  obtain ⟨rr, h1, post⟩ := q2
  refine ⟨rr, h1, ?_⟩
  cases rr with
  | err m e1 x => exact post
  | ok m e1 a => exact fun F' H' v' ef' eh hrel => let z := post F' H' v' ef' eh hrel; z.2 z.1 z.1⟩
end
end DL

/-! DLM: chains; tuples of what is owned; a list within, appended to; the end. -/
namespace DL
open PySem PySem.Spec PyProof.Rows L2 Evl
section
variable {X : Cx} {W : WX} {a b cc ex : Expr} {pos p : Pos} {da db dc : Den D}
def dchain (da db dc : Den D) (g g' : D → D → Option Bool) : Den D := dbind da fun x => dbind (dq db) fun y => dbind (dlift (g x y)) fun k => if k then dbind (dq dc) fun z => dlift ((g' y z).map D.bl) else dpure (.bl false)
theorem At.toQ {α β : Type} {rel : Rel α β} {K : KB} {den : Den α} {c : Ctx} {F H : Hp} {σ : L2.St} {e : Env} {ts : List (V × O)} {Q : β → Hp → Prop} (h : At rel K W (dq den) c F σ e ts H (fun v H' => Ex H H' → Q v H')) : At rel K W den c F σ e ts H Q := by
  have q := h.quiet
  obtain ⟨rr, h1, post⟩ := q
  refine ⟨rr, h1, ?_⟩
  cases rr with
  | err m e1 x => exact post
  | ok m e1 a => exact fun F' H' v' ef' eh hrel => let z := post F' H' v' ef' eh hrel; z.2 z.1 z.1
variable {j : Nat} {p2 : Pos}

/-! ### tuples of what is owned -/
/-- the values as temporaries, in their order -/
def relT : Rel (List O) (List V) := fun K c F H σ e ts os vs => RE K c F H σ e (vs.zip os ++ ts) ∧ os.length = vs.length
structure DTM (X : Cx) (W : WX) (es : List Expr) (den : Den (List O)) : Prop where
  run : PA X es (rd relT X.B W den)
/-- a slot's holding is moved -/
def rvM (rv : Rv) : Den O := fun e => match rv with
  | .im d => some (.ok false e (.im d))
  | .new o => some (.ok false e o)
  | .bor i _ => match e[i]? with
    | some (some (false, o)) => some (.ok false (e.set i none) o)
    | some (some (true, o)) => some (.ok false (e.set i (some (true, .im o.flat))) (.im o.flat))
    | _ => none
def dtmc (d : Den Rv) (ds : Den (List O)) : Den (List O) := dbind d fun rv => dbind (rvM rv) fun o => dbind ds fun os => dpure (o :: os)
theorem held_owns {K : KB} {F H : Hp} : ∀ {os : List O} {vs : List V} {fs : List Addr}, os.length = vs.length → Held K F H (vs.zip os) fs → Owns K F H os vs fs
  | [], [], fs, _, h => ⟨rfl, h⟩
  | o :: os, v :: vs, fs, hl, h => by
    obtain ⟨f1, f2, e1, h1, h2⟩ := h
    exact ⟨v, vs, f1, f2, rfl, e1, h1, held_owns (by simpa using hl) h2⟩
  | [], _ :: _, _, h, _ => by simp at h
  | _ :: _, [], _, h, _ => by simp at h
/-- the temporaries, put into a new object -/
theorem RE.pack {K : KB} {c : Ctx} {F H : Hp} {σ : L2.St} {e : Env} {ts : List (V × O)} {os : List O} {vs : List V} {l : Addr} {u : HO} {o : O} (R : RE K c F H σ e (vs.zip os ++ ts)) (hz : os.length = vs.length) (hl : H l = none)
    (mk : ∀ fs H', H' l = some u → Owns K F H' os vs fs → Own K F H' o (.ref l) (l :: fs)) : RE K c F (upd H l u) σ e ((.ref l, o) :: ts) := by
  obtain ⟨hs, fs, h1, h2, h3, h4⟩ := R.hd
  rw [List.append_assoc] at h2
  obtain ⟨f1, f2, e1, h5, h6⟩ := h2.split
  subst e1
  have th : ∀ p ∈ f1 ++ f2, H p ≠ none := fun p hp => by
    rcases List.mem_append.mp hp with z | z
    · exact Held.there h5 p z
    · exact Held.there h6 p z
  have ne : l ∉ f1 ++ f2 := fun z => th l z hl
  have kp : ∀ p ∈ f1 ++ f2, ∀ w, H p = some w → upd H l u p = some w := fun p hp w z => by rw [upd_ne (fun q => ne (by rw [← q]; exact hp))]; exact z
  refine ⟨R.g.trans (Ex.new hl), R.f0, R.fh.trans (Ex.new hl), R.nw, hs, (l :: f1) ++ f2, h1, ⟨l :: f1, f2, rfl, mk f1 _ upd_same (Owns.mono (Ex.refl _) _ _ _ (fun p hp => kp p (List.mem_append_left _ hp)) (held_owns hz h5)), Held.mono (Ex.refl _) (fun p hp => kp p (List.mem_append_right _ hp)) h6⟩, List.nodup_cons.mpr ⟨ne, h3⟩, fun p hp => ?_⟩
  rcases List.mem_cons.mp (show p ∈ l :: (f1 ++ f2) from hp) with z | z
  · rw [z]
    exact ⟨none_of_ex R.fh hl, none_of_ex R.g hl⟩
  · exact h4 p z
def dtupN (ds : Den (List O)) : Den Rv := dbind ds fun os => dlift (if os.length ≤ sizeLine then some (.new (.tup os)) else none)
end
end DL

/-! DLN: a list within what a slot holds, appended to; constants; the law's end. -/
namespace DL
open PySem PySem.Spec PyProof.Rows L2 Evl
section
variable {X : Cx} {W : WX} {a b ex : Expr} {pos p p2 px apos : Pos} {x : Str}
theorem di_gI {x : Str} {i : Int} (hg : Gl X x) (hm : ∃ t, X.mg x = some (.int i t)) (hd : (x == ("__debug__" : Str)) = false := by decide) : DI X W (.Name x pos) (dpure (.int i)) := by
  obtain ⟨t, ht⟩ := hm
  exact di_gint hg ht hd
theorem di_gS {x : Str} {i : Str} (hg : Gl X x) (hm : ∃ t, X.mg x = some (.str i t)) (hd : (x == ("__debug__" : Str)) = false := by decide) : DI X W (.Name x pos) (dpure (.str i)) := by
  obtain ⟨t, ht⟩ := hm
  exact di_gstr hg ht hd
end
/-! ### the end -/
theorem law_spec {K : KB} {H : Hp} {a : Addr} {ns : List Int} {f : FDen} (hS : SqL K H a (ns.map V.int)) (hf : ∃ m os, f [.im (.scr (ns.map D.int))] = some (.ok m os (.im (.bl true)))) : spD K 1 f [V.ref a] H (fun v x => v = V.bl true) (fun _ _ _ => False) := by
  obtain ⟨m, os, hf⟩ := hf
  have hr : Reps K H (ns.map D.int) (ns.map V.int) := by
    have key : ∀ l : List Int, Reps K H (l.map D.int) (l.map V.int) := by
      intro l
      induction l with
      | nil => exact rfl
      | cons a l ih => exact ⟨_, _, rfl, rfl, ih⟩
    exact key ns
  refine ⟨rfl, H, [.im (.scr (ns.map D.int))], [], _, rfl, ⟨[], [], rfl, ⟨rfl, a, _, rfl, hS, hr⟩, rfl⟩, List.nodup_nil, fun p hp => (nomatch hp), Ex.refl _, hf, ?_⟩
  intro F' H' v fs' _ _ _ _ _ hrep _ _ _
  exact hrep
theorem walkD {α : Type} {l : PySem.W.OpenLaw} {k : Nat} {q : Program} {loose : List Str} {XP : (Str → Option Value) → Heap → Prop} {YP : World → Heap → Prop} {d : DefRec} {K : Params → PySem.W.Frag} {x : Str} {f : α → FDen} {G : α → Prop} (hn : l.most = some 63) (hdf : d.params.defaults = []) (hroom : Room k callerA)
    (hY : ∀ (w : World) (h : Heap), YP w h → (K w.params).In h) (hf : ∀ A, G A → ∀ ns : List Int, ns.length ≤ 63 → ∃ m os, f A [.im (.scr (ns.map D.int))] = some (.ok m os (.im (.bl true))))
    (F : ∀ (w : World) (mg : Str → Option Value) (fa : Addr) (h : Heap), (K w.params).In h → h.Ns mainGlobals mg → mg d.name = some (.ref fa) →
      ∃ (fd : FuncData) (A : α), G A ∧ (∀ (s : Shared) (u : Value), BindsTo s fd ⟨[u], []⟩ [(x, u)]) ∧ ∀ base : Heap, (K w.params).In base → base.Ns mainGlobals mg → FnOk l.prog w (K w.params) mg base (L2.CX l.prog w) k fa fd [x] (spD ⟨K w.params, l.prog, w, mg⟩ 1 (f A))) :
    PySem.W.WalkO q loose XP YP l.row.toRowW d [] (fun f vs => PySem.call f vs) :=
  L2.walk_of (n := 63) (k := k) (x := x) (CX := fun w => L2.CX l.prog w) (sp := fun w vs H Q E => vs.length = 1 ∧ ∀ mg A, G A → spD ⟨K w.params, l.prog, w, mg⟩ 1 (f A) vs H Q E) hn (by decide) hdf hroom hY (fun w mg fa h h1 h2 h3 => by
      obtain ⟨fd, A, gA, hb, hF⟩ := F w mg fa h h1 h2 h3
      exact ⟨fd, hb, fun base b1 b2 => (hF base b1 b2).imp fun vs H Q E z => z.2 mg A gA⟩) (fun _ _ a ns hl _ hS => ⟨rfl, fun _ A gA => law_spec hS (hf A gA ns hl)⟩) fun _ _ _ _ _ z => by
    obtain ⟨_, _, _, _, _, _, _, _, _, _, _, _, z⟩ := z
    exact z
end DL

/-! DLO: denotations reckoned: what must hold so that they end as wanted. -/
namespace DL
open PySem PySem.Spec PyProof.Rows L2 Evl

/-- an expression's denotation ends well; q: and changed nothing -/
def EW {α : Type} (q : Bool) (d : Den α) (e : Env) (P : α → Env → Prop) : Prop := ∃ m e' a, d e = some (.ok m e' a) ∧ (q = true → m = false) ∧ P a e'
/-- a statement's; N: it goes on, R: it returns, B: it breaks, C: it continues -/
structure Aft where
  N : Env → Prop
  R : Rv → Env → Prop
  B : Env → Prop := fun _ => False
  C : Env → Prop := fun _ => False
def SP' (A : Aft) : SRes → Prop
  | .nx _ e => A.N e
  | .rt _ e r => A.R r e
  | .bk _ e => A.B e
  | .ct _ e => A.C e
  | .er _ _ _ => False
def SW (s : SDen) (e : Env) (A : Aft) : Prop := ∃ r, s e = some r ∧ SP' A r
section
variable {α β : Type} {q : Bool} {e : Env}
theorem SP'.more {A : Aft} {m : Bool} {r : SRes} (h : SP' A r) : ∃ r', SRes.more m (some r) = some r' ∧ SP' A r' := by
  cases r <;> first | exact ⟨_, rfl, h⟩ | exact False.elim h
theorem ew_pure {a : α} {P : α → Env → Prop} : EW q (dpure a) e P ↔ P a e := ⟨fun ⟨m, e', b, h, _, p⟩ => by cases h; exact p, fun h => ⟨false, e, a, rfl, fun _ => rfl, h⟩⟩
theorem ew_lift {a : Option α} {P : α → Env → Prop} : EW q (dlift a) e P ↔ ∃ x, a = some x ∧ P x e := by
  cases a with
  | none => exact ⟨fun ⟨m, e', b, h, _⟩ => (by cases h), fun ⟨x, h, _⟩ => by cases h⟩
  | some a => exact ew_pure.trans ⟨fun h => ⟨a, rfl, h⟩, fun ⟨x, h, p⟩ => by cases h; exact p⟩
theorem ew_bind {d : Den α} {f : α → Den β} {P : β → Env → Prop} : EW q (dbind d f) e P ↔ EW q d e fun a e' => EW q (f a) e' P := by
  constructor
  · rintro ⟨m, e', b, h, hm, p⟩
    unfold dbind at h
    cases hd : d e with
    | none => rw [hd] at h; cases h
    | some r =>
      rw [hd] at h
      cases r with
      | err m1 e1 x => cases h
      | ok m1 e1 a =>
        obtain ⟨m2, h2, hm2⟩ := more_ok h
        subst hm2
        exact ⟨m1, e1, a, hd, fun z => or_l (hm z), m2, e', b, h2, fun z => or_r (hm z), p⟩
  · rintro ⟨m1, e1, a, hd, hm1, m2, e2, b, h2, hm2, p⟩
    refine ⟨m1 || m2, e2, b, ?_, fun z => by rw [hm1 z, hm2 z]; rfl, p⟩
    unfold dbind
    rw [hd]
    show Res.more m1 (f a e1) = _
    rw [h2]
    rfl
theorem ew_dq {d : Den α} {P : α → Env → Prop} : EW q (dq d) e P ↔ EW true d e P := by
  constructor
  · rintro ⟨m, e', b, h, hm, p⟩
    unfold dq at h
    cases hd : d e with
    | none => rw [hd] at h; cases h
    | some r =>
      rw [hd] at h
      cases r with
      | err m1 e1 x => cases h
      | ok m1 e1 a =>
        cases m1 with
        | true => cases h
        | false => cases h; exact ⟨false, e', b, hd, fun _ => rfl, p⟩
  · rintro ⟨m1, e1, a, hd, hm1, p⟩
    have := hm1 rfl
    subst this
    exact ⟨false, e1, a, by unfold dq; rw [hd], fun _ => rfl, p⟩
/-- what stands in a slot -/
def lk (e : Env) (i : Nat) : Slot := (e[i]?).getD none
theorem ew_var {i : Nat} {P : Rv → Env → Prop} : EW q (dvar i) e P ↔ match lk e i with
    | some (_, .im d) => P (.im d) e
    | some (_, o) => P (.bor i o) e
    | none => False := by
  unfold lk EW dvar
  cases h : e[i]? with
  | none => exact ⟨fun ⟨m, e', b, h, _⟩ => (by cases h), fun h => False.elim h⟩
  | some s =>
    cases s with
    | none => exact ⟨fun ⟨m, e', b, h, _⟩ => (by cases h), fun h => False.elim h⟩
    | some s =>
      obtain ⟨b, o⟩ := s
      cases o <;> exact ⟨fun ⟨m, e', b, h, _, p⟩ => by cases h; exact p, fun p => ⟨false, e, _, rfl, fun _ => rfl, p⟩⟩
theorem ew_ite {c : Prop} [Decidable c] {d f : Den α} {P : α → Env → Prop} : EW q (if c then d else f) e P ↔ (c → EW q d e P) ∧ (¬ c → EW q f e P) := by
  by_cases h : c
  · rw [if_pos h]
    exact ⟨fun p => ⟨fun _ => p, fun z => absurd h z⟩, fun p => p.1 h⟩
  · rw [if_neg h]
    exact ⟨fun p => ⟨fun z => absurd z h, fun _ => p⟩, fun p => p.2 h⟩
theorem ew_frz {d : Den Rv} {P : D → Env → Prop} : EW q (frz d) e P ↔ EW q d e fun r e' => match r with
    | .im d => P d e'
    | .new o => P o.flat e'
    | .bor i o => match lk e' i with
      | some (b, _) => P o.flat (e'.set i (some (b, .im o.flat)))
      | none => False := by
  unfold frz
  rw [ew_bind]
  refine ⟨fun h => ?_, fun h => ?_⟩
  all_goals
    obtain ⟨m, e', r, h1, h2, h3⟩ := h
    refine ⟨m, e', r, h1, h2, ?_⟩
  · cases r with
    | im d => obtain ⟨m, e', b, h, _, p⟩ := h3; cases h; exact p
    | new o => obtain ⟨m, e', b, h, _, p⟩ := h3; cases h; exact p
    | bor i o =>
      obtain ⟨m, e2, b, h, _, p⟩ := h3
      unfold lk
      dsimp only at h ⊢
      cases hi : e'[i]? with
      | none => rw [hi] at h; cases h
      | some s =>
        rw [hi] at h
        cases s with
        | none => cases h
        | some s => obtain ⟨b, o1⟩ := s; cases h; exact p
  · cases r with
    | im d => exact ⟨false, e', d, rfl, fun _ => rfl, h3⟩
    | new o => exact ⟨false, e', _, rfl, fun _ => rfl, h3⟩
    | bor i o =>
      unfold lk at h3
      dsimp only at h3
      cases hi : e'[i]? with
      | none => rw [hi] at h3; exact False.elim h3
      | some s =>
        rw [hi] at h3
        cases s with
        | none => exact False.elim h3
        | some s =>
          obtain ⟨b, o1⟩ := s
          refine ⟨false, e'.set i (some (b, .im o.flat)), o.flat, ?_, fun _ => rfl, h3⟩
          dsimp only
          rw [hi]
theorem ew_vw {d : Den Rv} {P : D → Env → Prop} : EW q (vw d) e P ↔ EW q d e fun r e' => match r with
    | .im d => P d e'
    | .new o => P o.flat e'
    | .bor _ o => P o.flat e' := by
  unfold vw
  rw [ew_bind]
  refine ⟨fun ⟨m, e', r, h1, h2, h3⟩ => ⟨m, e', r, h1, h2, ?_⟩, fun ⟨m, e', r, h1, h2, h3⟩ => ⟨m, e', r, h1, h2, ?_⟩⟩
  all_goals cases r <;> first | exact ew_pure.mp h3 | exact ew_pure.mpr h3
theorem ew_ow {d : Den Rv} {P : O → Env → Prop} : EW q (ow d) e P ↔ EW q d e fun r e' => match r with
    | .im d => P (.im d) e'
    | .new o => P (.im o.flat) e'
    | .bor _ o => P o e' := by
  unfold ow
  rw [ew_bind]
  refine ⟨fun ⟨m, e', r, h1, h2, h3⟩ => ⟨m, e', r, h1, h2, ?_⟩, fun ⟨m, e', r, h1, h2, h3⟩ => ⟨m, e', r, h1, h2, ?_⟩⟩
  all_goals cases r <;> first | exact ew_pure.mp h3 | exact ew_pure.mpr h3
theorem ew_imR {d : Den D} {P : Rv → Env → Prop} : EW q (imR d) e P ↔ EW q d e fun x e' => P (.im x) e' := by unfold imR; rw [ew_bind]; simp only [ew_pure]
theorem ew_imD {d : Den O} {P : D → Env → Prop} : EW q (imD d) e P ↔ EW q d e fun o e' => ∃ x, imO o = some x ∧ P x e' := by unfold imD; rw [ew_bind]; simp only [ew_lift]
theorem ew_fl {d : Den O} {P : D → Env → Prop} : EW q (fl d) e P ↔ EW q d e fun o e' => P o.flat e' := by unfold fl; rw [ew_bind]; simp only [ew_pure]
theorem ew_bin {da db : Den D} {g : D → D → Option D} {P : D → Env → Prop} : EW q (dbin da db g) e P ↔ EW q da e fun x e1 => EW q db e1 fun y e2 => ∃ z, g x y = some z ∧ P z e2 := by unfold dbin; simp only [ew_bind, ew_lift]
theorem ew_cmp {da db : Den D} {g : D → D → Option Bool} {P : D → Env → Prop} : EW q (dcmp da db g) e P ↔ EW q da e fun x e1 => EW true db e1 fun y e2 => ∃ z, g x y = some z ∧ P (.bl z) e2 := by
  unfold dcmp
  simp only [ew_bind, ew_lift, ew_dq]
  refine ⟨fun ⟨m, e1, x, h1, h2, m2, e2, y, h3, h4, d, hd, p⟩ => ?_, fun ⟨m, e1, x, h1, h2, m2, e2, y, h3, h4, z, hz, p⟩ => ⟨m, e1, x, h1, h2, m2, e2, y, h3, h4, .bl z, by rw [hz]; rfl, p⟩⟩
  obtain ⟨b, hb, rfl⟩ := Option.map_eq_some_iff.mp hd
  exact ⟨m, e1, x, h1, h2, m2, e2, y, h3, h4, b, hb, p⟩
theorem ew_dtB {d : Den D} {P : Bool → Env → Prop} : EW q (dtB d) e P ↔ EW q d e fun x e' => match x with
    | .bl b => P b e'
    | _ => False := by
  unfold dtB
  simp only [ew_bind, ew_lift]
  refine ⟨fun ⟨m, e1, x, h1, h2, b, hb, p⟩ => ⟨m, e1, x, h1, h2, ?_⟩, fun ⟨m, e1, x, h1, h2, p⟩ => ⟨m, e1, x, h1, h2, ?_⟩⟩
  · cases x <;> cases hb
    exact p
  · cases x <;> first | exact False.elim p | exact ⟨_, rfl, p⟩
theorem ew_dtru {d : Den D} {P : Bool → Env → Prop} : EW q (dtru d) e P ↔ EW q d e fun x e' => ∃ b, truD x = some b ∧ P b e' := by unfold dtru; simp only [ew_bind, ew_lift]
theorem ew_dand {d f : Den Bool} {P : Bool → Env → Prop} : EW q (dand d f) e P ↔ EW q d e fun b e' => (b = true → EW q f e' P) ∧ (b = false → P false e') := by
  unfold dand
  simp only [ew_bind, ew_ite, ew_pure, Bool.not_eq_true]
theorem ew_dor {d f : Den Bool} {P : Bool → Env → Prop} : EW q (dor d f) e P ↔ EW q d e fun b e' => (b = true → P true e') ∧ (b = false → EW q f e' P) := by
  unfold dor
  simp only [ew_bind, ew_ite, ew_pure, Bool.not_eq_true]
theorem ew_dnot {d : Den Bool} {P : Bool → Env → Prop} : EW q (dnot d) e P ↔ EW q d e fun b e' => P (!b) e' := by unfold dnot; simp only [ew_bind, ew_pure]
theorem ew_dandV {d f : Den D} {P : D → Env → Prop} : EW q (dandV d f) e P ↔ EW q (dtB d) e fun b e' => (b = true → EW q f e' P) ∧ (b = false → P (.bl false) e') := by
  unfold dandV
  simp only [ew_bind, ew_ite, ew_pure, Bool.not_eq_true]
theorem ew_dorV {d f : Den D} {P : D → Env → Prop} : EW q (dorV d f) e P ↔ EW q (dtB d) e fun b e' => (b = true → P (.bl true) e') ∧ (b = false → EW q f e' P) := by
  unfold dorV
  simp only [ew_bind, ew_ite, ew_pure, Bool.not_eq_true]
theorem ew_dnotV {d : Den D} {P : D → Env → Prop} : EW q (dnotV d) e P ↔ EW q (dtB d) e fun b e' => P (.bl (!b)) e' := by unfold dnotV; simp only [ew_bind, ew_pure]
theorem ew_dif {t : Den Bool} {x y : Den α} {P : α → Env → Prop} : EW q (dif t x y) e P ↔ EW q t e fun b e' => (b = true → EW q x e' P) ∧ (b = false → EW q y e' P) := by
  unfold dif
  simp only [ew_bind, ew_ite, Bool.not_eq_true]
theorem ew_dcons {d : Den D} {ds : Den (List D)} {P : List D → Env → Prop} : EW q (dcons d ds) e P ↔ EW q d e fun x e1 => EW q ds e1 fun xs e2 => P (x :: xs) e2 := by unfold dcons; simp only [ew_bind, ew_pure]
theorem ew_dconsV {d : Den D} {ds : Den (List D)} {P : List D → Env → Prop} : EW q (dconsV d ds) e P ↔ EW q d e fun x e1 => EW true ds e1 fun xs e2 => P (x :: xs) e2 := by unfold dconsV; simp only [ew_bind, ew_pure, ew_dq]
theorem ew_darcons {d : Den Rv} {ds : Den (List AR)} {P : List AR → Env → Prop} : EW q (darcons d ds) e P ↔ EW q d e fun x e1 => EW q ds e1 fun xs e2 => P (darg x :: xs) e2 := by unfold darcons; simp only [ew_bind, ew_pure]
theorem ew_dtup {ds : Den (List D)} {P : D → Env → Prop} : EW q (dtup ds) e P ↔ EW q ds e fun xs e' => xs.length ≤ sizeLine ∧ P (.tup xs) e' := by
  unfold dtup
  simp only [ew_bind, ew_lift]
  refine ⟨fun ⟨m, e1, x, h1, h2, b, hb, p⟩ => ⟨m, e1, x, h1, h2, ?_⟩, fun ⟨m, e1, x, h1, h2, hz, p⟩ => ⟨m, e1, x, h1, h2, .tup x, by rw [if_pos hz], p⟩⟩
  split at hb
  · rename_i hz
    cases hb
    exact ⟨hz, p⟩
  · cases hb
theorem ew_dlst {ds : Den (List D)} {P : Rv → Env → Prop} : EW q (dlst ds) e P ↔ EW q ds e fun xs e' => xs.length ≤ sizeLine ∧ P (.new (.lst (xs.map O.im))) e' := by
  unfold dlst
  simp only [ew_bind, ew_lift]
  refine ⟨fun ⟨m, e1, x, h1, h2, b, hb, p⟩ => ⟨m, e1, x, h1, h2, ?_⟩, fun ⟨m, e1, x, h1, h2, hz, p⟩ => ⟨m, e1, x, h1, h2, _, by rw [if_pos hz], p⟩⟩
  split at hb
  · rename_i hz
    cases hb
    exact ⟨hz, p⟩
  · cases hb
theorem ew_dixO {d : Den O} {di : Den D} {P : O → Env → Prop} : EW q (dixO d di) e P ↔ EW q d e fun o e1 => EW true di e1 fun i e2 => ∃ x, elemOO o i = some x ∧ P x e2 := by unfold dixO; simp only [ew_bind, ew_lift, ew_dq]
theorem ew_chain {da db dc : Den D} {g g' : D → D → Option Bool} {P : D → Env → Prop} : EW q (dchain da db dc g g') e P ↔ EW q da e fun x e1 => EW true db e1 fun y e2 => ∃ k, g x y = some k ∧ (k = true → EW true dc e2 fun z e3 => ∃ b, g' y z = some b ∧ P (.bl b) e3) ∧ (k = false → P (.bl false) e2) := by
  unfold dchain
  simp only [ew_bind, ew_lift, ew_dq, ew_ite, ew_pure, Bool.not_eq_true]
  refine ⟨fun ⟨m, e1, x, h1, h2, m2, e2, y, h3, h4, k, hk, p1, p2⟩ => ⟨m, e1, x, h1, h2, m2, e2, y, h3, h4, k, hk, fun z => ?_, p2⟩, fun ⟨m, e1, x, h1, h2, m2, e2, y, h3, h4, k, hk, p1, p2⟩ => ⟨m, e1, x, h1, h2, m2, e2, y, h3, h4, k, hk, fun z => ?_, p2⟩⟩
  · obtain ⟨m5, e5, z5, h5, h6, d, hd, p⟩ := p1 z
    obtain ⟨b, hb, rfl⟩ := Option.map_eq_some_iff.mp hd
    exact ⟨m5, e5, z5, h5, h6, b, hb, p⟩
  · obtain ⟨m5, e5, z5, h5, h6, b, hb, p⟩ := p1 z
    exact ⟨m5, e5, z5, h5, h6, .bl b, by rw [hb]; rfl, p⟩
theorem ew_imp {d : Den α} {P Q : α → Env → Prop} (h : EW q d e P) (k : ∀ a e', P a e' → Q a e') : EW q d e Q := by
  obtain ⟨m, e', a, h1, h2, h3⟩ := h
  exact ⟨m, e', a, h1, h2, k a e' h3⟩
/-! ### statements -/
theorem sw_next {A : Aft} : SW snext e A ↔ A.N e := ⟨fun ⟨r, h, p⟩ => by cases h; exact p, fun h => ⟨_, rfl, h⟩⟩
theorem sw_seq {a b : SDen} {A : Aft} : SW (sseq a b) e A ↔ SW a e { A with N := fun e' => SW b e' A } := by
  constructor
  · rintro ⟨r, h, p⟩
    unfold sseq at h
    cases ha : a e with
    | none => rw [ha] at h; cases h
    | some ra =>
      rw [ha] at h
      refine ⟨ra, ha, ?_⟩
      cases ra with
      | nx m e1 =>
        dsimp only at h
        cases hb : b e1 with
        | none => rw [hb] at h; cases h
        | some rb =>
          rw [hb] at h
          refine ⟨rb, hb, ?_⟩
          cases rb <;> (cases h; exact p)
      | rt m e1 v => cases h; exact p
      | bk m e1 => cases h; exact p
      | ct m e1 => cases h; exact p
      | er m e1 x => cases h; exact p
  · rintro ⟨ra, ha, p⟩
    unfold SW sseq
    rw [ha]
    cases ra with
    | nx m e1 =>
      obtain ⟨rb, hb, pb⟩ := p
      dsimp only
      rw [hb]
      exact SP'.more pb
    | rt m e1 v => exact ⟨_, rfl, p⟩
    | bk m e1 => exact ⟨_, rfl, p⟩
    | ct m e1 => exact ⟨_, rfl, p⟩
    | er m e1 x => exact False.elim p
theorem sw_bind {d : Den α} {f : α → SDen} {A : Aft} : SW (sbind d f) e A ↔ EW false d e fun a e' => SW (f a) e' A := by
  constructor
  · rintro ⟨r, h, p⟩
    unfold sbind at h
    cases ha : d e with
    | none => rw [ha] at h; cases h
    | some ra =>
      rw [ha] at h
      cases ra with
      | err m e1 x => cases h; exact False.elim p
      | ok m e1 a =>
        refine ⟨m, e1, a, ha, fun z => (by cases z), ?_⟩
        dsimp only at h
        cases hb : f a e1 with
        | none => rw [hb] at h; cases h
        | some rb =>
          rw [hb] at h
          refine ⟨rb, hb, ?_⟩
          cases rb <;> (cases h; exact p)
  · rintro ⟨m, e1, a, ha, _, rb, hb, pb⟩
    unfold SW sbind
    rw [ha]
    dsimp only
    rw [hb]
    exact SP'.more pb
theorem sw_ite {c : Prop} [Decidable c] {a b : SDen} {A : Aft} : SW (if c then a else b) e A ↔ (c → SW a e A) ∧ (¬ c → SW b e A) := by
  by_cases h : c
  · rw [if_pos h]
    exact ⟨fun p => ⟨fun _ => p, fun z => absurd h z⟩, fun p => p.1 h⟩
  · rw [if_neg h]
    exact ⟨fun p => ⟨fun z => absurd z h, fun _ => p⟩, fun p => p.2 h⟩
theorem sw_if {t : Den Bool} {a b : SDen} {A : Aft} : SW (sif t a b) e A ↔ EW false t e fun k e' => (k = true → SW a e' A) ∧ (k = false → SW b e' A) := by
  unfold sif
  simp only [sw_bind, sw_ite, Bool.not_eq_true]
theorem sw_rt {d : Den Rv} {A : Aft} : SW (srt d) e A ↔ EW false d e fun r e' => A.R r e' := by
  unfold srt
  rw [sw_bind]
  exact ⟨fun h => ew_imp h fun a e' ⟨r, h, p⟩ => by cases h; exact p, fun h => ew_imp h fun a e' p => ⟨_, rfl, p⟩⟩
theorem sw_drop {d : Den Rv} {A : Aft} : SW (sdrop d) e A ↔ EW false d e fun _ e' => A.N e' := by
  unfold sdrop
  simp only [sw_bind, sw_next]
theorem lk_some {i : Nat} {s : Bool × O} (h : lk e i = some s) : e[i]? = some (some s) := by
  unfold lk at h
  cases hi : e[i]? with
  | none => rw [hi] at h; cases h
  | some x => rw [hi] at h; exact congrArg some h
theorem sw_set {i : Nat} {d : Den Rv} {A : Aft} : (EW false d e fun r e' => match r with
    | .im d => Env.free e' i = true ∧ A.N (e'.set i (some (false, .im d)))
    | .new o => Env.free e' i = true ∧ A.N (e'.set i (some (false, o)))
    | .bor j o => Env.free e' i = true ∧ match lk e' j with
      | some (b, _) => Env.free (e'.set j (some (b, .im o.flat))) i = true ∧ A.N ((e'.set j (some (b, .im o.flat))).set i (some (false, .im o.flat)))
      | none => False) → SW (sset i d) e A := by
  intro h
  unfold sset
  rw [sw_bind]
  refine ew_imp h fun r e' p => ?_
  cases r with
  | im d => exact ⟨_, if_pos p.1, p.2⟩
  | new o => exact ⟨_, if_pos p.1, p.2⟩
  | bor j o =>
    obtain ⟨p1, p2⟩ := p
    cases hl : lk e' j with
    | none => rw [hl] at p2; exact False.elim p2
    | some s =>
      obtain ⟨b, o1⟩ := s
      rw [hl] at p2
      refine ⟨.nx false ((e'.set j (some (b, .im o.flat))).set i (some (false, .im o.flat))), ?_, p2.2⟩
      dsimp only
      rw [if_pos p1, lk_some hl]
      exact if_pos p2.1
/-- a loop over items, by an invariant over their number -/
theorem sw_loop {bind : D → Env → Option Env} {body : SDen} {A : Aft} : ∀ {ds : List D} {e : Env} (Iv : Nat → Env → Prop), Iv 0 e →
    (∀ i d e', ds[i]? = some d → Iv i e' → ∃ e1, bind d e' = some e1 ∧ SW body e1 { N := Iv (i + 1), C := Iv (i + 1), R := A.R, B := A.N }) → (∀ e', Iv ds.length e' → A.N e') → SW (sloop bind body ds) e A
  | [], e, Iv, h0, hs, hd => sw_next.mpr (hd e h0)
  | d :: ds, e, Iv, h0, hs, hd => by
    obtain ⟨e1, hb, r, hr, p⟩ := hs 0 d e rfl h0
    have ih : ∀ e2, Iv 1 e2 → SW (sloop bind body ds) e2 A := fun e2 h2 => sw_loop (fun i e => Iv (i + 1) e) h2 (fun i d' e' hi h' => hs (i + 1) d' e' (by simpa using hi) h') (fun e' h' => hd e' h')
    unfold SW sloop
    rw [hb]
    dsimp only
    rw [hr]
    cases r with
    | nx m e2 =>
      obtain ⟨r2, h2, p2⟩ := ih e2 p
      show ∃ r, SRes.more m (sloop bind body ds e2) = some r ∧ _
      rw [h2]
      exact SP'.more p2
    | ct m e2 =>
      obtain ⟨r2, h2, p2⟩ := ih e2 p
      show ∃ r, SRes.more m (sloop bind body ds e2) = some r ∧ _
      rw [h2]
      exact SP'.more p2
    | bk m e2 => exact ⟨_, rfl, p⟩
    | rt m e2 v => exact ⟨_, rfl, p⟩
    | er m e2 x => exact False.elim p
theorem sw_forP {src : Den (List D)} {bind : D → Env → Option Env} {body : SDen} {A : Aft} : SW (sforP src bind body) e A ↔ EW false src e fun ds e' => SW (sloop bind body ds) e' A := by
  unfold sforP
  rw [sw_bind]
theorem ew_sq {d : Den D} {P : List D → Env → Prop} : EW q (sq d) e P ↔ EW q d e fun x e' => ∃ ds, seqD x = some ds ∧ P ds e' := by unfold sq; simp only [ew_bind, ew_lift]
theorem ew_rg {g : List D → Option (List D)} {d : Den (List D)} {P : List D → Env → Prop} : EW q (rg g d) e P ↔ EW q d e fun x e' => ∃ ds, g x = some ds ∧ P ds e' := by unfold rg; simp only [ew_bind, ew_lift]
theorem sw_app {i : Nat} {d : Den Rv} {A : Aft} {b0 : Bool} {os0 : List O} (h0 : lk e i = some (b0, .lst os0)) (h : EW false d e fun r e1 => EW false (rvO r) e1 fun o e' => match lk e' i with
    | some (b, .lst os) => os.length < sizeLine ∧ A.N (e'.set i (some (b, .lst (os ++ [o]))))
    | _ => False) : SW (sapp i d) e A := by
  unfold SW sapp
  rw [lk_some h0]
  show SW (sbind d fun rv => sbind (rvO rv) _) e A
  rw [sw_bind]
  refine ew_imp h fun r e1 p => ?_
  rw [sw_bind]
  refine ew_imp p fun o e' p => ?_
  unfold SW
  cases hl : lk e' i with
  | none => rw [hl] at p; exact False.elim p
  | some s =>
    obtain ⟨b, o1⟩ := s
    rw [hl] at p
    cases o1 with
    | lst os =>
      dsimp only
      rw [lk_some hl]
      exact ⟨_, if_pos p.1, p.2⟩
    | _ => exact False.elim p
theorem ew_rvO {r : Rv} {P : O → Env → Prop} : EW q (rvO r) e P ↔ match r with
    | .im d => P (.im d) e
    | .new o => P o e
    | .bor i _ => match lk e i with
      | some (b, o) => P (.im o.flat) (e.set i (some (b, .im o.flat)))
      | none => False := by
  unfold rvO EW
  cases r with
  | im d => exact ⟨fun ⟨m, e', a, h, _, p⟩ => by cases h; exact p, fun p => ⟨false, e, _, rfl, fun _ => rfl, p⟩⟩
  | new o => exact ⟨fun ⟨m, e', a, h, _, p⟩ => by cases h; exact p, fun p => ⟨false, e, _, rfl, fun _ => rfl, p⟩⟩
  | bor i o =>
    dsimp only
    unfold lk
    cases hi : e[i]? with
    | none => exact ⟨fun ⟨m, e', a, h, _, p⟩ => (by cases h), fun p => False.elim p⟩
    | some s =>
      cases s with
      | none => exact ⟨fun ⟨m, e', a, h, _, p⟩ => (by cases h), fun p => False.elim p⟩
      | some s => obtain ⟨b, o1⟩ := s; exact ⟨fun ⟨m, e', a, h, _, p⟩ => by cases h; exact p, fun p => ⟨false, _, _, rfl, fun _ => rfl, p⟩⟩
/-! ### defs -/
/-- .. it gives what is new -/
def FN (f : FDen) (ds : List D) (o : O) : Prop := ∃ m, f (ds.map O.im) = some (.ok m (ds.map O.im) (.new o))
theorem outs_im : ∀ (ds : List D) (e : Env), ds.length ≤ e.length → outs (ds.map O.im) e = some (ds.map O.im)
  | [], e, _ => by cases e <;> rfl
  | d :: ds, [], h => by simp at h
  | d :: ds, s :: e, h => by
    show (outs (ds.map O.im) e).map _ = _
    rw [outs_im ds e (by simpa using h)]
    rfl
theorem fn_of {n : Nat} {s : SDen} {ds : List D} {o : O} (h : SW s (env0 (ds.map O.im) n) { N := fun e => False, R := fun r e => ds.length ≤ e.length ∧ (r = .new o ∨ ∃ i o', r = .bor i o' ∧ o' = o ∧ lk e i = some (false, o)) }) : FN (fnden n s) ds o := by
  obtain ⟨r, hr, p⟩ := h
  unfold FN fnden
  rw [hr]
  cases r with
  | nx m e => exact False.elim p
  | rt m e r =>
    obtain ⟨hl, p⟩ := p
    rcases p with rfl | ⟨i, o', rfl, rfl, p⟩
    · dsimp only
      rw [outs_im ds e hl]
      exact ⟨m, rfl⟩
    · dsimp only
      rw [lk_some p]
      dsimp only
      rw [outs_im ds (e.set i none) (by rw [List.length_set]; exact hl)]
      exact ⟨m, rfl⟩
  | _ => exact False.elim p
theorem lend_im : ∀ (ds : List D) (e : Env), lend (ds.map AR.im) e = some (ds.map O.im, ds.map (fun _ => none), e)
  | [], e => rfl
  | d :: ds, e => by
    show (lend (ds.map AR.im) e).map _ = _
    rw [lend_im ds e]
    rfl
theorem unlend_im : ∀ (ds : List D) (e : Env), unlend (ds.map (fun _ => none)) (ds.map O.im) e = some e
  | [], e => rfl
  | d :: ds, e => unlend_im ds e
theorem allIm_map : ∀ ds : List D, allIm (ds.map O.im) = true
  | [] => rfl
  | d :: ds => allIm_map ds
end
end DL

/-! DLP: rules that step through a denotation. -/
namespace DL
open PySem PySem.Spec PyProof.Rows L2 Evl
def OP {α : Type} (o : Option α) (P : α → Prop) : Prop := ∃ z, o = some z ∧ P z
def BR (k : Bool) (X Y : Prop) : Prop := (k = true → X) ∧ (k = false → Y)
theorem br_t {X Y : Prop} (h : X) : BR true X Y := ⟨fun _ => h, fun z => by cases z⟩
theorem br_f {X Y : Prop} (h : Y) : BR false X Y := ⟨fun z => (by cases z), fun _ => h⟩
theorem br_not {k : Bool} {X Y : Prop} (h : BR k Y X) : BR (!k) X Y := by
  cases k
  · exact ⟨fun _ => h.2 rfl, fun z => (by cases z)⟩
  · exact ⟨fun z => (by cases z), fun _ => h.1 rfl⟩
theorem br_dec {p : Prop} [Decidable p] {X Y : Prop} (h1 : p → X) (h2 : ¬ p → Y) : BR (decide p) X Y := ⟨fun h => h1 (of_decide_eq_true h), fun h => h2 (of_decide_eq_false h)⟩
theorem br_eqT {k : Bool} {X Y : Prop} (hk : k = true) (h : X) : BR k X Y := ⟨fun _ => h, fun z => by rw [hk] at z; cases z⟩
theorem br_eqF {k : Bool} {X Y : Prop} (hk : k = false) (h : Y) : BR k X Y := ⟨fun z => (by rw [hk] at z; cases z), fun _ => h⟩
section
variable {α β : Type} {q : Bool} {e : Env}
theorem w_op {o : Option α} {z : α} {P : α → Prop} (h : o = some z) (p : P z) : OP o P := ⟨z, h, p⟩
theorem mul_l {i j : Int} (h : i.natAbs < 2 ^ 64) : mulOk i j = true := by unfold mulOk; rw [decide_eq_true h]; rfl
theorem mul_r {i j : Int} (h : j.natAbs < 2 ^ 64) : mulOk i j = true := by unfold mulOk; rw [decide_eq_true h]; cases decide (i.natAbs < 2 ^ 64) <;> rfl
theorem op_mul {i j : Int} {P : D → Prop} (h : mulOk i j = true) (p : P (.int (i * j))) : OP (mulD (.int i) (.int j)) P := ⟨_, if_pos h, p⟩
theorem op_div {i j : Int} {P : D → Prop} (h : j ≠ 0 ∧ j.natAbs.log2 < 9000) (p : P (.int (i.fdiv j))) : OP (divD (.int i) (.int j)) P := ⟨_, if_pos h, p⟩
theorem op_mod {i j : Int} {P : D → Prop} (h : j ≠ 0) (p : P (.int (i.fmod j))) : OP (modD (.int i) (.int j)) P := ⟨_, if_pos h, p⟩
theorem op_pow {i j : Int} {P : D → Prop} (h : 0 ≤ j ∧ j ≤ 1000000 ∧ i.natAbs < 2 ^ 64) (p : P (.int (i ^ j.toNat))) : OP (powD (.int i) (.int j)) P := ⟨_, if_pos h, p⟩
theorem eqD_ii (i j : Int) : eqD (.int i) (.int j) = some (decide (i = j)) := rfl
theorem op_eq {i j : Int} {P : Bool → Prop} (p : P (decide (i = j))) : OP (eqD (.int i) (.int j)) P := ⟨_, eqD_ii i j, p⟩
theorem op_ne {i j : Int} {P : Bool → Prop} (p : P (!decide (i = j))) : OP (neD (.int i) (.int j)) P := ⟨_, rfl, p⟩
/-- what is in hand by each use -/
def frzP (r : Rv) (e' : Env) (P : D → Env → Prop) : Prop := match r with
    | .im d => P d e'
    | .new o => P o.flat e'
    | .bor i o => match lk e' i with
      | some (b, _) => P o.flat (e'.set i (some (b, .im o.flat)))
      | none => False
def vwP (r : Rv) (e' : Env) (P : D → Env → Prop) : Prop := match r with
    | .im d => P d e'
    | .new o => P o.flat e'
    | .bor _ o => P o.flat e'
def owP (r : Rv) (e' : Env) (P : O → Env → Prop) : Prop := match r with
    | .im d => P (.im d) e'
    | .new o => P (.im o.flat) e'
    | .bor _ o => P o e'
def setP (i : Nat) (r : Rv) (e' : Env) (N : Env → Prop) : Prop := match r with
  | .im d => Env.free e' i = true ∧ N (e'.set i (some (false, .im d)))
  | .new o => Env.free e' i = true ∧ N (e'.set i (some (false, o)))
  | .bor j o => Env.free e' i = true ∧ match lk e' j with
    | some (b, _) => Env.free (e'.set j (some (b, .im o.flat))) i = true ∧ N ((e'.set j (some (b, .im o.flat))).set i (some (false, .im o.flat)))
    | none => False
def argP (r : Rv) (P : AR → Prop) : Prop := P (darg r)
def rvP (r : Rv) (e : Env) (P : O → Env → Prop) : Prop := match r with
    | .im d => P (.im d) e
    | .new o => P o e
    | .bor i _ => match lk e i with
      | some (b, o) => P (.im o.flat) (e.set i (some (b, .im o.flat)))
      | none => False
def appP (i : Nat) (o : O) (e' : Env) (N : Env → Prop) : Prop := match lk e' i with
    | some (b, .lst os) => os.length < sizeLine ∧ N (e'.set i (some (b, .lst (os ++ [o]))))
    | _ => False
section
variable {P : D → Env → Prop} {PO : O → Env → Prop} {N : Env → Prop} {PA : AR → Prop} {d : D} {o : O} {i : Nat}
theorem frzP_im (p : P d e) : frzP (.im d) e P := p
theorem frzP_new (p : P o.flat e) : frzP (.new o) e P := p
theorem vwP_im (p : P d e) : vwP (.im d) e P := p
theorem vwP_new (p : P o.flat e) : vwP (.new o) e P := p
theorem vwP_bor (p : P o.flat e) : vwP (.bor i o) e P := p
theorem owP_im (p : PO (.im d) e) : owP (.im d) e PO := p
theorem owP_new (p : PO (.im o.flat) e) : owP (.new o) e PO := p
theorem owP_bor (p : PO o e) : owP (.bor i o) e PO := p
theorem setP_im (h : e.free i = true) (p : N (e.set i (some (false, .im d)))) : setP i (.im d) e N := ⟨h, p⟩
theorem setP_new (h : e.free i = true) (p : N (e.set i (some (false, o)))) : setP i (.new o) e N := ⟨h, p⟩
theorem argP_im (p : PA (.im d)) : argP (.im d) PA := p
theorem argP_new (p : PA (.im o.flat)) : argP (.new o) PA := p
theorem argP_bor (p : PA (.bor i)) : argP (.bor i o) PA := p
theorem rvP_im (p : PO (.im d) e) : rvP (.im d) e PO := p
theorem rvP_new (p : PO o e) : rvP (.new o) e PO := p
theorem appP_of {b : Bool} {os : List O} (h : lk e i = some (b, .lst os)) (hl : os.length < sizeLine) (p : N (e.set i (some (b, .lst (os ++ [o]))))) : appP i o e N := by
  unfold appP
  rw [h]
  exact ⟨hl, p⟩
end
section
variable {P : α → Env → Prop} {PR : Rv → Env → Prop} {PD : D → Env → Prop} {PO : O → Env → Prop} {PB : Bool → Env → Prop}
theorem w_pure {a : α} (p : P a e) : EW q (dpure a) e P := ew_pure.mpr p
theorem w_bind {d : Den β} {f : β → Den α} (p : EW q d e fun a e' => EW q (f a) e' P) : EW q (dbind d f) e P := ew_bind.mpr p
theorem w_lift {a : Option α} (p : OP a fun x => P x e) : EW q (dlift a) e P := ew_lift.mpr p
theorem w_dq {d : Den α} (p : EW true d e P) : EW q (dq d) e P := ew_dq.mpr p
theorem w_varI {i : Nat} {b : Bool} {d : D} (h : lk e i = some (b, .im d)) (p : PR (.im d) e) : EW q (dvar i) e PR := ew_var.mpr (by rw [h]; exact p)
theorem w_varL {i : Nat} {b : Bool} {os : List O} (h : lk e i = some (b, .lst os)) (p : PR (.bor i (.lst os)) e) : EW q (dvar i) e PR := ew_var.mpr (by rw [h]; exact p)
theorem w_varT {i : Nat} {b : Bool} {os : List O} (h : lk e i = some (b, .tup os)) (p : PR (.bor i (.tup os)) e) : EW q (dvar i) e PR := ew_var.mpr (by rw [h]; exact p)
theorem w_frzI {i : Nat} {b : Bool} {d : D} (h : lk e i = some (b, .im d)) (p : PD d e) : EW q (frz (dvar i)) e PD := ew_frz.mpr (w_varI h p)
theorem w_frzO {i : Nat} {b : Bool} {o : O} (h : lk e i = some (b, o)) (p : PD o.flat (e.set i (some (b, .im o.flat)))) : EW q (frz (dvar i)) e PD := by
  refine ew_frz.mpr (ew_var.mpr ?_)
  rw [h]
  cases o with
  | im d =>
    have : e.set i (some (b, .im d)) = e := by
      apply List.ext_getElem?
      intro j
      rw [List.getElem?_set]
      by_cases hj : i = j
      · subst hj
        rw [lk_some h]
        split
        · split
          · rfl
          · rename_i hz
            have := lk_some h
            rw [List.getElem?_eq_none (by omega)] at this
            cases this
        · rename_i hz; exact absurd rfl hz
      · rw [if_neg hj]
    simp only [O.flat] at p
    rw [this] at p
    exact p
  | _ =>
    dsimp only
    rw [h]
    exact p
theorem w_frz {d : Den Rv} (p : EW q d e fun r e' => frzP r e' PD) : EW q (frz d) e PD := ew_frz.mpr p
theorem w_vwI {i : Nat} {b : Bool} {d : D} (h : lk e i = some (b, .im d)) (p : PD d e) : EW q (vw (dvar i)) e PD := ew_vw.mpr (w_varI h p)
theorem w_vwO {i : Nat} {b : Bool} {o : O} (h : lk e i = some (b, o)) (p : PD o.flat e) : EW q (vw (dvar i)) e PD := by
  refine ew_vw.mpr (ew_var.mpr ?_)
  rw [h]
  cases o <;> exact p
theorem w_vw {d : Den Rv} (p : EW q d e fun r e' => vwP r e' PD) : EW q (vw d) e PD := ew_vw.mpr p
theorem w_owO {i : Nat} {b : Bool} {o : O} (h : lk e i = some (b, o)) (p : PO o e) : EW q (ow (dvar i)) e PO := by
  refine ew_ow.mpr (ew_var.mpr ?_)
  rw [h]
  cases o <;> exact p
theorem w_ow {d : Den Rv} (p : EW q d e fun r e' => owP r e' PO) : EW q (ow d) e PO := ew_ow.mpr p
theorem w_imR {d : Den D} (p : EW q d e fun x e' => PR (.im x) e') : EW q (imR d) e PR := ew_imR.mpr p
theorem w_imD {d : Den O} (p : EW q d e fun o e' => OP (imO o) fun x => PD x e') : EW q (imD d) e PD := ew_imD.mpr p
theorem w_fl {d : Den O} (p : EW q d e fun o e' => PD o.flat e') : EW q (fl d) e PD := ew_fl.mpr p
theorem w_bin {da db : Den D} {g : D → D → Option D} (p : EW q da e fun x e1 => EW q db e1 fun y e2 => OP (g x y) fun z => PD z e2) : EW q (dbin da db g) e PD := ew_bin.mpr p
theorem w_cmp {da db : Den D} {g : D → D → Option Bool} (p : EW q da e fun x e1 => EW true db e1 fun y e2 => OP (g x y) fun z => PD (.bl z) e2) : EW q (dcmp da db g) e PD := ew_cmp.mpr p
def blP (x : D) (P : Bool → Prop) : Prop := match x with
  | .bl b => P b
  | _ => False
theorem blP_of {b : Bool} {P : Bool → Prop} (p : P b) : blP (.bl b) P := p
theorem w_dtB {d : Den D} (p : EW q d e fun x e' => blP x fun b => PB b e') : EW q (dtB d) e PB := ew_dtB.mpr (ew_imp p fun x e' h => by cases x <;> first | exact h | exact False.elim h)
theorem w_dtru {d : Den D} (p : EW q d e fun x e' => OP (truD x) fun b => PB b e') : EW q (dtru d) e PB := ew_dtru.mpr p
theorem w_dand {d f : Den Bool} (p : EW q d e fun b e' => BR b (EW q f e' PB) (PB false e')) : EW q (dand d f) e PB := ew_dand.mpr p
theorem w_dor {d f : Den Bool} (p : EW q d e fun b e' => BR b (PB true e') (EW q f e' PB)) : EW q (dor d f) e PB := ew_dor.mpr p
theorem w_dnot {d : Den Bool} (p : EW q d e fun b e' => PB (!b) e') : EW q (dnot d) e PB := ew_dnot.mpr p
theorem w_dandV {d f : Den D} (p : EW q (dtB d) e fun b e' => BR b (EW q f e' PD) (PD (.bl false) e')) : EW q (dandV d f) e PD := ew_dandV.mpr p
theorem w_dorV {d f : Den D} (p : EW q (dtB d) e fun b e' => BR b (PD (.bl true) e') (EW q f e' PD)) : EW q (dorV d f) e PD := ew_dorV.mpr p
theorem w_dnotV {d : Den D} (p : EW q (dtB d) e fun b e' => PD (.bl (!b)) e') : EW q (dnotV d) e PD := ew_dnotV.mpr p
theorem w_dif {t : Den Bool} {x y : Den α} (p : EW q t e fun b e' => BR b (EW q x e' P) (EW q y e' P)) : EW q (dif t x y) e P := ew_dif.mpr p
theorem w_dcons {d : Den D} {ds : Den (List D)} {P : List D → Env → Prop} (p : EW q d e fun x e1 => EW q ds e1 fun xs e2 => P (x :: xs) e2) : EW q (dcons d ds) e P := ew_dcons.mpr p
theorem w_dconsV {d : Den D} {ds : Den (List D)} {P : List D → Env → Prop} (p : EW q d e fun x e1 => EW true ds e1 fun xs e2 => P (x :: xs) e2) : EW q (dconsV d ds) e P := ew_dconsV.mpr p
theorem w_darcons {d : Den Rv} {ds : Den (List AR)} {P : List AR → Env → Prop} (p : EW q d e fun x e1 => argP x fun a => EW q ds e1 fun xs e2 => P (a :: xs) e2) : EW q (darcons d ds) e P := ew_darcons.mpr p
theorem w_dtup {ds : Den (List D)} (p : EW q ds e fun xs e' => xs.length ≤ sizeLine ∧ PD (.tup xs) e') : EW q (dtup ds) e PD := ew_dtup.mpr p
theorem w_dlst {ds : Den (List D)} (p : EW q ds e fun xs e' => xs.length ≤ sizeLine ∧ PR (.new (.lst (xs.map O.im))) e') : EW q (dlst ds) e PR := ew_dlst.mpr p
theorem sz {n : Nat} {X : Prop} (h : n ≤ 1000) (p : X) : n ≤ sizeLine ∧ X := ⟨Nat.le_trans h (by decide), p⟩
theorem w_dixO {d : Den O} {di : Den D} (p : EW q d e fun o e1 => EW true di e1 fun i e2 => OP (elemOO o i) fun x => PO x e2) : EW q (dixO d di) e PO := ew_dixO.mpr p
theorem w_sq {d : Den D} {P : List D → Env → Prop} (p : EW q d e fun x e' => OP (seqD x) fun ds => P ds e') : EW q (sq d) e P := ew_sq.mpr p
theorem w_rg {g : List D → Option (List D)} {d : Den (List D)} {P : List D → Env → Prop} (p : EW q d e fun x e' => OP (g x) fun ds => P ds e') : EW q (rg g d) e P := ew_rg.mpr p
theorem w_rvO {r : Rv} (p : rvP r e PO) : EW q (rvO r) e PO := ew_rvO.mpr p
theorem w_dslice {d : Den O} {dl dh : Den (Option Int)} (p : EW q d e fun o e1 => EW true dl e1 fun lo e2 => EW true dh e2 fun hi e3 => OP (cutO o lo hi) fun r => PR r e3) : EW q (dslice d dl dh) e PR := by
  unfold dslice
  simp only [ew_bind, ew_lift, ew_dq]
  exact p
end
section
variable {N : Env → Prop} {R : Rv → Env → Prop} {B C : Env → Prop}
theorem w_next (p : N e) : SW snext e ⟨N, R, B, C⟩ := sw_next.mpr p
theorem w_seq {a b : SDen} (p : SW a e ⟨fun e' => SW b e' ⟨N, R, B, C⟩, R, B, C⟩) : SW (sseq a b) e ⟨N, R, B, C⟩ := sw_seq.mpr p
theorem w_if {t : Den Bool} {a b : SDen} (p : EW false t e fun k e' => BR k (SW a e' ⟨N, R, B, C⟩) (SW b e' ⟨N, R, B, C⟩)) : SW (sif t a b) e ⟨N, R, B, C⟩ := sw_if.mpr p
theorem w_rt {d : Den Rv} (p : EW false d e fun r e' => R r e') : SW (srt d) e ⟨N, R, B, C⟩ := sw_rt.mpr p
theorem w_drop {d : Den Rv} (p : EW false d e fun _ e' => N e') : SW (sdrop d) e ⟨N, R, B, C⟩ := sw_drop.mpr p
theorem w_set {i : Nat} {d : Den Rv} (p : EW false d e fun r e' => setP i r e' N) : SW (sset i d) e ⟨N, R, B, C⟩ := sw_set p
theorem w_app {i : Nat} {d : Den Rv} {b0 : Bool} {os0 : List O} (h : lk e i = some (b0, .lst os0)) (p : EW false d e fun r e1 => rvP r e1 fun o e' => appP i o e' N) : SW (sapp i d) e ⟨N, R, B, C⟩ :=
  sw_app h (ew_imp p fun r e' h => ew_rvO.mpr (by
    unfold rvP appP at h
    cases r with
    | bor j x =>
      dsimp only at h ⊢
      split <;> rename_i hq <;> rw [hq] at h
      · exact h
      · exact h
    | _ => exact h))
theorem w_forP {src : Den (List D)} {bind : D → Env → Option Env} {body : SDen} (p : EW false src e fun ds e' => SW (sloop bind body ds) e' ⟨N, R, B, C⟩) : SW (sforP src bind body) e ⟨N, R, B, C⟩ := sw_forP.mpr p
theorem w_cut {s : SDen} (M : Env → Prop) (h : SW s e ⟨M, R, B, C⟩) (k : ∀ e', M e' → N e') : SW s e ⟨N, R, B, C⟩ := by
  obtain ⟨r, hr, p⟩ := h
  refine ⟨r, hr, ?_⟩
  cases r <;> first | exact k _ p | exact p
theorem w_asg {b : D → Env → Option Env} {d : Den D} (p : EW false d e fun x e' => OP (b x e') N) : SW (sasg b d) e ⟨N, R, B, C⟩ := by
  unfold sasg
  rw [sw_bind]
  refine ew_imp p fun x e' h => ?_
  obtain ⟨z, hz, p⟩ := h
  exact ⟨.nx false z, by dsimp only; rw [hz]; rfl, p⟩
end
/-! ### calls -/
/-- f, given os, ends well -/
def FO (f : FDen) (os : List O) (Post : List O → FRv → Prop) : Prop := ∃ m os' r, f os = some (.ok m os' r) ∧ Post os' r
def rvF : FRv → Rv
  | .im d => .im d
  | .new o => .new o
theorem FO.imp {f : FDen} {os : List O} {P Q : List O → FRv → Prop} (h : FO f os P) (k : ∀ o r, P o r → Q o r) : FO f os Q := by
  obtain ⟨m, os', r, h1, h2⟩ := h
  exact ⟨m, os', r, h1, k _ _ h2⟩
/-- what a def's last state gives -/
def outP (os : List O) (Post : List O → FRv → Prop) (r : Rv) (e : Env) : Prop := match r with
  | .im d => OP (outs os e) fun os' => Post os' (.im d)
  | .new o => OP (outs os e) fun os' => Post os' (.new o)
  | .bor i o => match lk e i with
    | some (false, _) => OP (outs os (e.set i none)) fun os' => Post os' (.new o)
    | _ => False
theorem w_fun {n : Nat} {s : SDen} {os : List O} {Post : List O → FRv → Prop} (h : SW s (env0 os n) ⟨fun e => OP (outs os e) fun os' => Post os' (.im .non), fun r e => outP os Post r e, fun _ => False, fun _ => False⟩) : FO (fnden n s) os Post := by
  obtain ⟨r, hr, p⟩ := h
  unfold FO fnden
  rw [hr]
  cases r with
  | nx m e =>
    obtain ⟨z, hz, p⟩ := p
    dsimp only
    rw [hz]
    exact ⟨m, z, _, rfl, p⟩
  | rt m e r =>
    cases r with
    | im d =>
      obtain ⟨z, hz, p⟩ := p
      dsimp only
      rw [hz]
      exact ⟨m, z, _, rfl, p⟩
    | new o =>
      obtain ⟨z, hz, p⟩ := p
      dsimp only
      rw [hz]
      exact ⟨m, z, _, rfl, p⟩
    | bor i o =>
      unfold SP' outP at p
      dsimp only at p ⊢
      cases hl : lk e i with
      | none => rw [hl] at p; exact False.elim p
      | some x =>
        obtain ⟨b, y⟩ := x
        rw [hl] at p
        cases b with
        | true => exact False.elim p
        | false =>
          obtain ⟨z, hz, p⟩ := p
          rw [lk_some hl]
          dsimp only
          rw [hz]
          exact ⟨m, z, _, rfl, p⟩
  | _ => exact False.elim p
theorem w_fo {n : Nat} {f : FDen} {as : List AR} {os : List O} {ks : List (Option (Nat × Bool))} {e1 : Env} {Post : List O → FRv → Prop} {P : Rv → Env → Prop} (hf : FO f os Post) (hn : as.length = n) (hl : lend as e = some (os, ks, e1)) (hq : q = false ∨ allIm os = true)
    (k : ∀ os' r, Post os' r → OP (unlend ks os' e1) fun e2 => P (rvF r) e2) : EW q (dfnA n f as) e P := by
  obtain ⟨m, os', r, h1, h2⟩ := hf
  obtain ⟨e2, h3, h4⟩ := k os' r h2
  unfold EW dfnA
  rw [if_pos hn, hl]
  dsimp only
  rw [h1]
  have hm : q = true → (m && !allIm os) = false := fun z => by
    rcases hq with h | h
    · rw [h] at z; cases z
    · rw [h]; cases m <;> rfl
  cases r with
  | im d => dsimp only; rw [h3]; exact ⟨_, e2, _, rfl, hm, h4⟩
  | new o => dsimp only; rw [h3]; exact ⟨_, e2, _, rfl, hm, h4⟩
/-- f, given what is frozen alone, ends well -/
def FI (f : FDen) (ds : List D) (Post : FRv → Prop) : Prop := FO f (ds.map O.im) fun os' r => os' = ds.map O.im ∧ Post r
def outI (k : Nat) (Post : FRv → Prop) (r : Rv) (e : Env) : Prop := match r with
  | .im d => k ≤ e.length ∧ Post (.im d)
  | .new o => k ≤ e.length ∧ Post (.new o)
  | .bor i o => k ≤ e.length ∧ match lk e i with
    | some (false, _) => Post (.new o)
    | _ => False
theorem w_fi {n : Nat} {s : SDen} {ds : List D} {Post : FRv → Prop} (h : SW s (env0 (ds.map O.im) n) ⟨fun e => ds.length ≤ e.length ∧ Post (.im .non), fun r e => outI ds.length Post r e, fun _ => False, fun _ => False⟩) : FI (fnden n s) ds Post := by
  refine w_fun ?_
  obtain ⟨r, hr, p⟩ := h
  refine ⟨r, hr, ?_⟩
  cases r with
  | nx m e => exact ⟨_, outs_im ds e p.1, rfl, p.2⟩
  | rt m e r =>
    cases r with
    | im d => exact ⟨_, outs_im ds e p.1, rfl, p.2⟩
    | new d => exact ⟨_, outs_im ds e p.1, rfl, p.2⟩
    | bor i o =>
      obtain ⟨p1, p2⟩ := p
      unfold SP' outP
      dsimp only
      cases hl : lk e i with
      | none => rw [hl] at p2; exact False.elim p2
      | some x =>
        obtain ⟨b, y⟩ := x
        rw [hl] at p2
        cases b with
        | true => exact False.elim p2
        | false => exact ⟨_, outs_im ds (e.set i none) (by rw [List.length_set]; exact p1), rfl, p2⟩
  | _ => exact False.elim p
/-- called with frozen things alone -/
theorem w_call {n : Nat} {f : FDen} {ds : List D} {Post : FRv → Prop} {P : Rv → Env → Prop} (hf : FI f ds Post) (hn : ds.length = n) (k : ∀ r, Post r → P (rvF r) e) : EW q (dfnA n f (ds.map AR.im)) e P :=
  w_fo hf (by rw [List.length_map]; exact hn) (lend_im ds e) (.inr (allIm_map ds)) fun os' r h => by
    obtain ⟨rfl, h⟩ := h
    exact ⟨e, unlend_im ds e, k r h⟩
theorem w_callI {n : Nat} {f : FDen} {ds : List D} {d : D} {P : Rv → Env → Prop} (hf : FI f ds (· = .im d)) (hn : ds.length = n) (k : P (.im d) e) : EW q (dfnA n f (ds.map AR.im)) e P := w_call hf hn fun r h => by rw [h]; exact k
/-! ### comprehensions -/
section
variable {PR : Rv → Env → Prop} {PD : D → Env → Prop} {PL : List O → Env → Prop} {N : Env → Prop} {R : Rv → Env → Prop} {B C : Env → Prop}
def mvP (rv : Rv) (e : Env) (P : O → Env → Prop) : Prop := match rv with
  | .im d => P (.im d) e
  | .new o => P o e
  | .bor i _ => match lk e i with
    | some (false, o) => P o (e.set i none)
    | some (true, o) => P (.im o.flat) (e.set i (some (true, .im o.flat)))
    | none => False
theorem mvP_im {P : O → Env → Prop} {d : D} (p : P (.im d) e) : mvP (.im d) e P := p
theorem mvP_new {P : O → Env → Prop} {o : O} (p : P o e) : mvP (.new o) e P := p
theorem mvP_bor {P : O → Env → Prop} {i : Nat} {o x : O} (h : lk e i = some (false, o)) (p : P o (e.set i none)) : mvP (.bor i x) e P := by
  unfold mvP
  dsimp only
  rw [h]
  exact p
theorem w_rvM {rv : Rv} {P : O → Env → Prop} (p : mvP rv e P) : EW q (rvM rv) e P := by
  unfold mvP at p
  unfold EW rvM
  cases rv with
  | im d => exact ⟨_, _, _, rfl, fun _ => rfl, p⟩
  | new d => exact ⟨_, _, _, rfl, fun _ => rfl, p⟩
  | bor i x =>
    dsimp only at p ⊢
    cases h : lk e i with
    | none => rw [h] at p; exact False.elim p
    | some y =>
      obtain ⟨b, y⟩ := y
      rw [h] at p
      rw [lk_some h]
      cases b <;> exact ⟨_, _, _, rfl, fun _ => rfl, p⟩
theorem w_dtmc {d : Den Rv} {ds : Den (List O)} (p : EW q d e fun rv e1 => mvP rv e1 fun o e2 => EW q ds e2 fun os e3 => PL (o :: os) e3) : EW q (dtmc d ds) e PL := by
  unfold dtmc
  rw [ew_bind]
  refine ew_imp p fun rv e1 h => ?_
  rw [ew_bind]
  refine w_rvM ?_
  have : ∀ o e2, (EW q ds e2 fun os e3 => PL (o :: os) e3) → EW q (dbind ds fun os => dpure (o :: os)) e2 PL := fun o e2 h => by
    rw [ew_bind]
    exact ew_imp h fun os e3 h => ew_pure.mpr h
  unfold mvP at h ⊢
  cases rv with
  | im d => exact this _ _ h
  | new d => exact this _ _ h
  | bor i x =>
    dsimp only at h ⊢
    cases h2 : lk e1 i with
    | none => rw [h2] at h; exact False.elim h
    | some y =>
      obtain ⟨b, y⟩ := y
      rw [h2] at h
      cases b <;> exact this _ _ h
theorem w_dtupN {ds : Den (List O)} (p : EW q ds e fun os e' => os.length ≤ sizeLine ∧ PR (.new (.tup os)) e') : EW q (dtupN ds) e PR := by
  unfold dtupN
  rw [ew_bind]
  refine ew_imp p fun os e' h => ew_lift.mpr ⟨_, if_pos h.1, h.2⟩
/-- the items at hand -/
def itP (r : Rv) (e : Env) (P : List D → Env → Prop) : Prop := match r with
  | .im d => OP (seqD d) fun ds => P ds e
  | .new o => OP (seqD o.flat) fun ds => P ds e
  | .bor i _ => match lk e i with
    | some (_, o) => OP (seqO o) fun ds => P ds e
    | none => False
theorem itP_im {P : List D → Env → Prop} {d : D} (p : OP (seqD d) fun ds => P ds e) : itP (.im d) e P := p
theorem itP_new {P : List D → Env → Prop} {o : O} (p : OP (seqD o.flat) fun ds => P ds e) : itP (.new o) e P := p
theorem w_dlist {d : Den Rv} (p : EW q d e fun r e' => itP r e' fun ds e2 => PR (.new (.lst (ds.map O.im))) e2) : EW q (dlist d) e PR := by
  unfold dlist ar1
  simp only [ew_bind, ew_pure]
  refine ew_imp p fun r e' h => ?_
  unfold itP at h
  unfold EW seqA darg
  cases r with
  | im d => obtain ⟨z, hz, p⟩ := h; dsimp only; rw [hz]; exact ⟨_, _, _, rfl, fun _ => rfl, p⟩
  | new d => obtain ⟨z, hz, p⟩ := h; dsimp only; rw [hz]; exact ⟨_, _, _, rfl, fun _ => rfl, p⟩
  | bor i x =>
    dsimp only at h ⊢
    unfold slotO
    cases h2 : lk e' i with
    | none => rw [h2] at h; exact False.elim h
    | some y =>
      obtain ⟨b, y⟩ := y
      rw [h2] at h
      obtain ⟨z, hz, p⟩ := h
      rw [lk_some h2]
      show ∃ m e'_1 a, ((some y).bind seqO).map _ = _ ∧ _
      rw [Option.bind_some, hz]
      exact ⟨_, _, _, rfl, fun _ => rfl, p⟩
/-- tuple(x), of a list's items -/
def tuP (r : Rv) (e : Env) (P : D → Env → Prop) : Prop := match r with
  | .im (.lst ds) => P (.tup ds) e
  | .im (.scr ds) => P (.tup ds) e
  | .im (.tup ds) => P (.tup ds) e
  | .new (.lst os) => P (.tup (O.flats os)) e
  | .bor i _ => match lk e i with
    | some (_, .lst os) => OP (ims os) fun ds => P (.tup ds) e
    | _ => False
  | _ => False
theorem tuP_lst {P : D → Env → Prop} {ds : List D} (p : P (.tup ds) e) : tuP (.im (.lst ds)) e P := p
theorem w_dtuple {d : Den Rv} (p : EW q d e fun r e' => tuP r e' PD) : EW q (dtuple d) e PD := by
  unfold dtuple ar1
  simp only [ew_bind, ew_pure]
  refine ew_imp p fun r e' h => ?_
  unfold tuP at h
  unfold EW darg
  cases r with
  | im d => cases d <;> first | exact ⟨_, _, _, rfl, fun _ => rfl, h⟩ | exact False.elim h
  | new o => cases o <;> first | exact ⟨_, _, _, rfl, fun _ => rfl, h⟩ | exact False.elim h
  | bor i x =>
    dsimp only at h ⊢
    unfold slotO
    cases h2 : lk e' i with
    | none => rw [h2] at h; exact False.elim h
    | some y =>
      obtain ⟨b, y⟩ := y
      rw [h2] at h
      rw [lk_some h2]
      cases y with
      | lst os =>
        obtain ⟨z, hz, p⟩ := h
        dsimp only
        rw [hz]
        exact ⟨_, _, _, rfl, fun _ => rfl, p⟩
      | _ => exact False.elim h
theorem w_sforI {it : Den Rv} {bind : D → Env → Option Env} {body : SDen} (p : EW false it e fun r e' => match r with
    | .im d => OP (seqD d) fun ds => SW (sloop bind body ds) e' ⟨N, R, B, C⟩
    | .new o => OP (seqD o.flat) fun ds => SW (sloop bind body ds) e' ⟨N, R, B, C⟩
    | .bor i _ => match lk e' i with
      | some (b, o) => OP (seqO o) fun ds => SW (slend i (sloop bind body ds)) e' ⟨N, R, B, C⟩
      | none => False) : SW (sfor it bind body) e ⟨N, R, B, C⟩ := by
  unfold sfor
  rw [sw_bind]
  refine ew_imp p fun r e' h => ?_
  unfold SW
  cases r with
  | im d => obtain ⟨z, hz, p⟩ := h; dsimp only; rw [hz]; exact p
  | new d => obtain ⟨z, hz, p⟩ := h; dsimp only; rw [hz]; exact p
  | bor i x =>
    dsimp only at h ⊢
    cases h2 : lk e' i with
    | none => rw [h2] at h; exact False.elim h
    | some y =>
      obtain ⟨b, y⟩ := y
      rw [h2] at h
      obtain ⟨z, hz, p⟩ := h
      rw [lk_some h2]
      dsimp only
      rw [hz]
      exact p
end
end
end DL

/-! DLQ: loops over what is only seen: their turns change nothing. -/
namespace DL
open PySem PySem.Spec PyProof.Rows L2 Evl
/-- the items of what is seen -/
def itemsO : O → Option (List D)
  | .im d => seqD d
  | o => seqO o
/-- a turn that goes on has changed nothing -/
def sqt (s : SDen) : SDen := fun e => match s e with
  | some (.nx false e') => some (.nx false e')
  | some (.ct false e') => some (.ct false e')
  | some (.nx true _) => none
  | some (.ct true _) => none
  | r => r
def sforV (d : Den O) (bind : D → Env → Option Env) (body : SDen) : SDen := sbind d fun o => match itemsO o with
  | some ds => sloop bind (sqt body) ds
  | none => fun _ => none
section
variable {K : KB} {W : WX} {c : Ctx} {F H : Hp} {σ : L2.St} {e : Env} {ts : List (V × O)}
end
section
variable {X : Cx} {W : WX} {tg iter : Expr} {body : List Stmt} {pos : Pos} {bind : D → Env → Option Env} {sl : List Nat} {db : SDen}
end
/-! ### list(x), tuple(x) of what is seen -/
def tupV : O → Option D
  | .im (.lst ds) => some (.tup ds)
  | .im (.scr ds) => some (.tup ds)
  | .im (.tup ds) => some (.tup ds)
  | .im (.wtp ds) => some (.wtp ds)
  | .lst os => (ims os).map D.tup
  | _ => none
def dtupV (d : Den O) : Den D := dbind d fun o => dlift (tupV o)
def dlistV (d : Den O) : Den Rv := dbind d fun o => dlift ((itemsO o).map fun ds => Rv.new (.lst (ds.map O.im)))
section
variable {X : Cx} {W : WX} {a : Expr} {pos p : Pos} {x : Str} {d : Den O}
theorem di_tupV (hg : Gl X x) (hm : X.mg x = none) (hv : bootBuiltins x = some (.type "tuple")) (ha : DO X W a d) (hn : x ≠ "__name__" := by decide) (hdb : (x == ("__debug__" : Str)) = false := by decide)
    (he : starEach (a :: []) X.env = (false, eval a X.env) :: starEach [] X.env := by rfl) (hpl : (backTo pos (starEach [] X.env)).any (·.1) = false := by rfl) : DI X W (.Call (.Name x p) [a] [] pos) (dtupV d) :=
  ⟨pe_weak (pe_callTy call_tuple_of hg hm hv (pa_cons ha.run pa_nil he) hn hdb he hpl) fun σ H Q q => by
    obtain ⟨c, F, e, ts, R, q⟩ := q
    refine ⟨c, F, e, ts, R, q.bind (rel := relW) fun F1 H1 e1 o v ef hr q1 => ?_⟩
    obtain ⟨z, hz, k⟩ := q1.lift
    obtain ⟨R1, fs, ho⟩ := hr
    have mk : ∀ {ds : List D} {p' : Addr} {xs : List V}, z = .tup ds → Reps X.B F1 ds xs → SqL X.B H1 p' xs → v = .ref p' →
        ∃ p ys, [v] = [V.ref p] ∧ ((SqL X.B H1 p ys ∧ ∀ l, H1 l = none → Q (.ref l) (upd H1 l (.tup ys))) ∨ (SqT X.B H1 p ys ∧ Q (.ref p) H1)) := by
      intro ds p' xs ez hrs hsq ev
      subst ev ez
      refine ⟨p', xs, rfl, .inl ⟨hsq, fun l hl => k (upd F1 l (.tup xs)) (upd H1 l (.tup xs)) (.ref l) (Ex.new (none_of_ex R1.fh hl)) (Ex.new hl) ⟨R1.newF hl, l, xs, rfl, SqT.of upd_same, Reps.mono (Ex.new (none_of_ex R1.fh hl)) _ _ hrs⟩⟩⟩
    unfold tupV at hz
    split at hz
    · cases hz
      obtain ⟨p', xs, ev, h1, h2⟩ := ho.2
      exact mk rfl h2 (SqL.of (R1.fh _ _ h1)) ev
    · cases hz
      obtain ⟨p', xs, ev, h1, h2⟩ := ho.2
      exact mk rfl h2 (ex_l R1.fh h1) ev
    · cases hz
      obtain ⟨p', xs, rfl, h1, h2⟩ := id ho.2
      exact ⟨p', xs, rfl, .inr ⟨ex_t R1.fh h1, k F1 H1 _ (Ex.refl _) (Ex.refl _) ⟨R1, ho.2⟩⟩⟩
    · cases hz
      obtain ⟨p', xs, rfl, h1, h2⟩ := id ho.2
      exact ⟨p', xs, rfl, .inr ⟨ex_t R1.fh h1, k F1 H1 _ (Ex.refl _) (Ex.refl _) ⟨R1, ho.2⟩⟩⟩
    · obtain ⟨ds, hd, rfl⟩ := Option.map_eq_some_iff.mp hz
      have eo := ims_eq hd
      subst eo
      obtain ⟨a', xs, rr, ev, _, hA, hos⟩ := ho
      exact mk rfl (of_owns_im hos).1 (SqL.of hA) ev
    · cases hz⟩
end
/-! ### reckoned -/
section
variable {q : Bool} {e : Env}
theorem w_tupV {d : Den O} {P : D → Env → Prop} (p : EW q d e fun o e' => OP (tupV o) fun x => P x e') : EW q (dtupV d) e P := by unfold dtupV; rw [ew_bind]; exact ew_imp p fun o e' h => ew_lift.mpr h
theorem w_listV {d : Den O} {P : Rv → Env → Prop} (p : EW q d e fun o e' => OP (itemsO o) fun ds => P (.new (.lst (ds.map O.im))) e') : EW q (dlistV d) e P := by
  unfold dlistV
  rw [ew_bind]
  refine ew_imp p fun o e' h => ew_lift.mpr ?_
  obtain ⟨z, hz, p⟩ := h
  exact ⟨_, by rw [hz]; rfl, p⟩
end
section
variable {q : Bool} {e : Env} {N : Env → Prop} {R : Rv → Env → Prop} {B C : Env → Prop}
theorem w_forV {d : Den O} {bind : D → Env → Option Env} {body : SDen} (p : EW false d e fun o e' => OP (itemsO o) fun ds => SW (sloop bind (sqt body) ds) e' ⟨N, R, B, C⟩) : SW (sforV d bind body) e ⟨N, R, B, C⟩ := by
  unfold sforV
  rw [sw_bind]
  refine ew_imp p fun o e' h => ?_
  obtain ⟨z, hz, p⟩ := h
  rw [hz]
  exact p
theorem sqt_if {t : Den Bool} {a b : SDen} (p : EW true t e fun k e' => BR k (SW (sqt a) e' ⟨N, R, B, C⟩) (SW (sqt b) e' ⟨N, R, B, C⟩)) : SW (sqt (sif t a b)) e ⟨N, R, B, C⟩ := by
  obtain ⟨m, e', k, h1, h2, h3⟩ := p
  have hm := h2 rfl
  subst hm
  have key : ∀ s : SDen, SW (sqt s) e' ⟨N, R, B, C⟩ → sif t a b e = SRes.more false (s e') → SW (sqt (sif t a b)) e ⟨N, R, B, C⟩ := fun s hs he => by
    obtain ⟨r, hr, p⟩ := hs
    refine ⟨r, ?_, p⟩
    unfold sqt at hr ⊢
    rw [he]
    cases hse : s e' with
    | none => rw [hse] at hr; cases hr
    | some x =>
      rw [hse] at hr
      cases x <;> exact hr
  cases k with
  | true => exact key a (h3.1 rfl) (by unfold sif sbind; rw [h1]; rfl)
  | false => exact key b (h3.2 rfl) (by unfold sif sbind; rw [h1]; rfl)
theorem sqt_rt {d : Den Rv} (p : SW (srt d) e ⟨N, R, B, C⟩) : SW (sqt (srt d)) e ⟨N, R, B, C⟩ := by
  obtain ⟨r, hr, p⟩ := p
  have h : sqt (srt d) e = srt d e := by
    unfold sqt
    unfold srt sbind at hr ⊢
    cases hd : d e with
    | none => rfl
    | some x => cases x <;> rfl
  exact ⟨r, by rw [h]; exact hr, p⟩
theorem sqt_next (p : N e) : SW (sqt snext) e ⟨N, R, B, C⟩ := ⟨_, rfl, p⟩
theorem outI_im {k : Nat} {Post : FRv → Prop} {d : D} (h : k ≤ e.length) (p : Post (.im d)) : outI k Post (.im d) e := ⟨h, p⟩
theorem outI_new {k : Nat} {Post : FRv → Prop} {o : O} (h : k ≤ e.length) (p : Post (.new o)) : outI k Post (.new o) e := ⟨h, p⟩
theorem outI_bor {k i : Nat} {Post : FRv → Prop} {o x : O} (h : k ≤ e.length) (hl : lk e i = some (false, x)) (p : Post (.new o)) : outI k Post (.bor i o) e := ⟨h, by rw [hl]; exact p⟩
/-- a loop over a range -/
theorem sw_range {n : Int} {bind : D → Env → Option Env} {body : SDen} {A : Aft} (Iv : Nat → Env → Prop) (h0 : Iv 0 e)
    (hs : ∀ (i : Nat) e', i < n.toNat → Iv i e' → OP (bind (.int i) e') fun e1 => SW body e1 ⟨Iv (i + 1), A.R, A.N, Iv (i + 1)⟩) (hd : ∀ e', Iv n.toNat e' → A.N e') : SW (sloop bind body (rangeD 0 n.toNat)) e A := by
  refine sw_loop Iv h0 (fun i d e' hi h' => ?_) fun e' h' => hd e' (by unfold rangeD at h'; simpa using h')
  unfold rangeD at hi
  rw [List.getElem?_map] at hi
  obtain ⟨j, hj, rfl⟩ := Option.map_eq_some_iff.mp hi
  have hj2 := List.getElem?_eq_some_iff.mp hj
  obtain ⟨hlt, hj3⟩ := hj2
  rw [List.getElem_range] at hj3
  subst hj3
  rw [Int.zero_add]
  exact hs i e' (by simpa using hlt) h'
/-- a list of frozen things, held or frozen -/
def Lv (xs : List D) (o : O) : Prop := o = .im (.lst xs) ∨ o = .lst (xs.map O.im)
theorem Lv.flat {xs : List D} {o : O} (h : Lv xs o) : o.flat = .lst xs := by
  rcases h with rfl | rfl
  · rfl
  · show D.lst (O.flats (xs.map O.im)) = _
    rw [flats_im]
theorem Lv.of {xs : List D} : Lv xs (.lst (xs.map O.im)) := .inr rfl
theorem Lv.fz {xs : List D} {o : O} (h : Lv xs o) : Lv xs (.im o.flat) := .inl (by rw [h.flat])
theorem atI_map {α β : Type} (f : α → β) (xs : List α) (i : Int) : L2.atI (xs.map f) i = (L2.atI xs i).map f := by
  unfold L2.atI
  rw [List.length_map]
  cases L2.ixN xs.length i <;> simp
theorem atI_nn {α : Type} (xs : List α) (i : Int) (h : 0 ≤ i) : L2.atI xs i = xs[i.toNat]? := by
  obtain ⟨n, rfl⟩ := Int.eq_ofNat_of_zero_le h
  unfold L2.atI L2.ixN
  rw [if_pos h]
  split
  · rfl
  · rename_i hz
    simp at hz ⊢
    omega
theorem Lv.at {xs : List D} {o : O} {i : Int} (h : Lv xs o) : elemOO o (.int i) = (L2.atI xs i).map O.im := by
  rcases h with rfl | rfl
  · rfl
  · exact atI_map O.im xs i
theorem Lv.items {xs : List D} {o : O} (h : Lv xs o) : itemsO o = some xs := by
  rcases h with rfl | rfl
  · rfl
  · show ims (xs.map O.im) = _
    induction xs with
    | nil => rfl
    | cons x xs ih => show (ims (xs.map O.im)).map _ = _; rw [ih]; rfl
/-- a list of ints at hand -/
def LI (ns : List Int) (o : O) : Prop := Lv (ns.map D.int) o
theorem atI_int {ns : List Int} {i : Int} (h0 : 0 ≤ i) (h1 : i < ns.length) : L2.atI (ns.map D.int) i = some (.int (ns.getD i.toNat 0)) := by
  rw [atI_map, atI_nn _ _ h0, List.getD_eq_getElem?_getD, List.getElem?_eq_getElem (by omega)]
  rfl
/-- a slot free to be stored to: empty, or filled -/
def fo (s : Option O) : Slot := s.map fun o => (false, o)
theorem fo_free {i : Nat} {s : Option O} (h : e[i]? = some (fo s)) : e.free i = true := by
  unfold Env.free
  rw [h]
  cases s <;> rfl
theorem op_rng {m : Int} {P : List D → Prop} (h : 0 ≤ m ∧ m ≤ 1000000) (p : P (rangeD 0 m.toNat)) : OP (rng1D [.int m]) P := ⟨_, if_pos (by omega), p⟩
theorem mem_range {n : Nat} {d : D} (h : d ∈ rangeD 0 n) : ∃ i : Nat, i < n ∧ d = .int i := by
  unfold rangeD at h
  obtain ⟨i, hi, rfl⟩ := List.mem_map.mp h
  exact ⟨i, List.mem_range.mp hi, by rw [Int.zero_add]⟩
theorem log2_lt {j : Int} (h0 : j ≠ 0) (h : j.natAbs < 2 ^ 64) : j ≠ 0 ∧ j.natAbs.log2 < 9000 := ⟨h0, Nat.lt_trans ((Nat.log2_lt (by omega)).mpr h) (by decide)⟩
theorem ints_map : ∀ ns : List Int, intsD (ns.map D.int) = some ns
  | [] => rfl
  | n :: ns => by show (intsD (ns.map D.int)).map _ = _; rw [ints_map ns]; rfl
theorem w_seqM {a b : SDen} (M : Env → Prop) (h : SW a e ⟨M, R, B, C⟩) (k : ∀ e', M e' → SW b e' ⟨N, R, B, C⟩) : SW (sseq a b) e ⟨N, R, B, C⟩ := w_seq (w_cut M h k)
theorem LI.of {ns : List Int} : LI ns (.lst (ns.map fun n => O.im (D.int n))) := .inr (by rw [List.map_map]; rfl)
theorem flats_int (ns : List Int) : O.flats (ns.map fun n => O.im (D.int n)) = ns.map D.int := by
  rw [← flats_im (ns.map D.int), List.map_map]; rfl
theorem cut_from (xs : List D) (k : Nat) (h : k ≤ xs.length) : cutD xs (some (k : Int)) none = xs.drop k := by
  unfold cutD
  rw [HT.sIx_none, HT.sIx_nat, Nat.min_eq_left h]
  exact List.take_of_length_le (by rw [List.length_drop]; omega)
def fi (s : Option D) : Slot := fo (s.map O.im)
theorem flats_map {γ : Type} (g : γ → D) (l : List γ) : O.flats (l.map fun a => O.im (g a)) = l.map g := by
  rw [← flats_im (l.map g), List.map_map]; rfl
theorem w_sforv {i : Nat} {b : Bool} {d : D} {ds : List D} {bind : D → Env → Option Env} {body : SDen} (h : lk e i = some (b, .im d)) (hs : seqD d = some ds) (p : SW (sloop bind body ds) e ⟨N, R, B, C⟩) : SW (sfor (dvar i) bind body) e ⟨N, R, B, C⟩ :=
  w_sforI (w_varI h ⟨ds, hs, p⟩)
/-- a loop over l's pictures -/
theorem sw_each {γ : Type} {bind : D → Env → Option Env} {body : SDen} {A : Aft} (l : List γ) (g : γ → D) (Iv : Nat → Env → Prop) (h0 : Iv 0 e)
    (hs : ∀ i a e', l[i]? = some a → Iv i e' → OP (bind (g a) e') fun e1 => SW body e1 ⟨Iv (i + 1), A.R, A.N, Iv (i + 1)⟩) (hd : ∀ e', Iv l.length e' → A.N e') : SW (sloop bind body (l.map g)) e A := by
  refine sw_loop Iv h0 (fun i d e' hi h' => ?_) fun e' h' => hd e' (by rwa [List.length_map] at h')
  rw [List.getElem?_map] at hi
  obtain ⟨a, ha, rfl⟩ := Option.map_eq_some_iff.mp hi
  exact hs i a e' ha h'
theorem flat_map {γ : Type} (g : γ → D) (l : List γ) : O.flat (.lst (l.map fun a => O.im (g a))) = .lst (l.map g) := by
  show D.lst (O.flats _) = _
  rw [flats_map]
theorem op_isiII {i : Int} {P : D → Prop} (p : P (.bl true)) : OP (isiD [.int i, .ty "int"]) P := ⟨_, rfl, p⟩
theorem op_isiIB {i : Int} {P : D → Prop} (p : P (.bl false)) : OP (isiD [.int i, .ty "bool"]) P := ⟨_, rfl, p⟩
theorem op_isiTT {i : List D} {P : D → Prop} (p : P (.bl true)) : OP (isiD [.tup i, .ty "tuple"]) P := ⟨_, rfl, p⟩
theorem op_isiLL {i : List D} {P : D → Prop} (p : P (.bl true)) : OP (isiD [.lst i, .ty "list"]) P := ⟨_, rfl, p⟩
theorem op_rngG {m : Int} {P : List D → Prop} (h : (0 ≤ m ∧ m ≤ 1000000) ∧ P (rangeD 0 m.toNat)) : OP (rng1D [.int m]) P := op_rng h.1 h.2
end
end DL

/-! DLR: match over written strings. -/
namespace DL
open PySem PySem.Spec PyProof.Rows L2 Evl
/-- cases, the subject at hand -/
structure PMC (X : Cx) (cs : List MatchCase) (t : V → TS) : Prop where
  run : ∀ (first : Bool) (pins : List (Addr × Obj)) (s : Shared) (σ : L2.St) (H : Hp) (D : Ends) (x : V) (u : Value), Inv X pins σ H s → RelV x u → t x D σ H → wpAny (model X.prog X.w) X.A (matchCases cs X.env u first) (SP X pins D) X.xe s
section
variable {X : Cx} {W : WX}
/-- what is done for z -/
def spick (z : Str) : List (Str × SDen) → SDen
  | [] => snext
  | (p, b) :: cs => if z = p then b else spick z cs
def smatch (d : Den D) (cs : List (Str × SDen)) : SDen := sbind d fun x => match x with
  | .str z => if PyData.strOk z = true then spick z cs else fun _ => none
  | _ => fun _ => none
structure DMC (X : Cx) (W : WX) (cs : List MatchCase) (ds : List (Str × SDen)) : Prop where
  run : PMC X cs fun x D σ H => ∃ z, x = .str z ∧ PyData.strOk z = true ∧ ∃ c F e ts, RE X.B c F H σ e ts ∧ AtS X.B W (spick z ds) D c F σ e ts H
end
section
variable {e : Env} {N : Env → Prop} {R : Rv → Env → Prop} {B C : Env → Prop}
def pickP (x : D) (cs : List (Str × SDen)) (e : Env) (A : Aft) : Prop := match x with
  | .str z => PyData.strOk z = true ∧ SW (spick z cs) e A
  | _ => False
theorem w_match {d : Den D} {cs : List (Str × SDen)} (p : EW false d e fun x e' => pickP x cs e' ⟨N, R, B, C⟩) : SW (smatch d cs) e ⟨N, R, B, C⟩ := by
  unfold smatch
  rw [sw_bind]
  refine ew_imp p fun x e' h => ?_
  unfold pickP at h
  cases x <;> first | exact False.elim h | (dsimp only at h ⊢; rw [if_pos h.1]; exact h.2)
theorem pickP_of {z : Str} {cs : List (Str × SDen)} (hz : PyData.strOk z = true) (p : SW (spick z cs) e ⟨N, R, B, C⟩) : pickP (.str z) cs e ⟨N, R, B, C⟩ := ⟨hz, p⟩
theorem sp_n {z : Str} (p : N e) : SW (spick z []) e ⟨N, R, B, C⟩ := w_next p
theorem sp_t {z : Str} {b : SDen} {cs : List (Str × SDen)} (p : SW b e ⟨N, R, B, C⟩) : SW (spick z ((z, b) :: cs)) e ⟨N, R, B, C⟩ := by
  unfold spick
  rw [if_pos rfl]
  exact p
theorem sp_f {z y : Str} {b : SDen} {cs : List (Str × SDen)} (h : ¬ z = y) (p : SW (spick z cs) e ⟨N, R, B, C⟩) : SW (spick z ((y, b) :: cs)) e ⟨N, R, B, C⟩ := by
  unfold spick
  rw [if_neg h]
  exact p
theorem w_chain {q : Bool} {da db dc : Den D} {g g' : D → D → Option Bool} {P : D → Env → Prop} (p : EW q da e fun x e1 => EW true db e1 fun y e2 => OP (g x y) fun k => BR k (EW true dc e2 fun z e3 => OP (g' y z) fun b => P (.bl b) e3) (P (.bl false) e2)) : EW q (dchain da db dc g g') e P := ew_chain.mpr p
end
section
variable {X : Cx} {W : WX} {a b : Expr} {pos : Pos} {da db : Den D}
end
end DL

/-! DLS: lists put together. -/
namespace DL
open PySem PySem.Spec PyProof.Rows L2 Evl
def lstV : O → Option (List D)
  | .im (.lst ds) => some ds
  | .lst os => ims os
  | _ => none
def catV (a b : O) : Option Rv := match lstV a, lstV b with
  | some xs, some ys => if xs.length + ys.length ≤ sizeLine then some (.new (.lst ((xs ++ ys).map O.im))) else none
  | _, _ => none
def dcat (d f : Den O) : Den Rv := dbind d fun x => dbind (dq f) fun y => dlift (catV x y)
theorem lstV_ok {K : KB} {F H : Hp} {o : O} {ds : List D} {v : V} {fs : List Addr} (fh : Ex F H) (h : Own K F H o v fs) (hs : lstV o = some ds) : ∃ a xs, v = .ref a ∧ Reps K F ds xs ∧ H a = some (.lst xs) := by
  cases o with
  | im d =>
    cases d with
    | lst es => cases hs; obtain ⟨a, xs, e1, h1, h2⟩ := h.2; exact ⟨a, xs, e1, h2, fh _ _ h1⟩
    | _ => cases hs
  | lst os =>
    have eo := ims_eq hs
    subst eo
    obtain ⟨a, xs, rr, rfl, _, ha, hos⟩ := h
    exact ⟨a, xs, rfl, (of_owns_im hos).1, ha⟩
  | _ => cases hs
section
variable {X : Cx} {W : WX} {a b : Expr} {pos : Pos} {da db : Den O}
theorem de_cat (ha : DO X W a da) (hb : DO X W b db) (h : ∀ {ta tb}, PE X a ta → PE X b tb → PE X (.BinOp a .Add b pos) (tOp rCat ta tb)) : DE X W (.BinOp a .Add b pos) (dcat da db) := ⟨pe_weak (h ha.run hb.run) fun σ H Q q => by
  obtain ⟨c, F, e, ts, R, q⟩ := q
  refine ⟨c, F, e, ts, R, q.bind (rel := relW) fun F1 H1 e1 x v ef hr q1 => ⟨c, F1, e1, ts, hr.1, ?_⟩⟩
  have q2 := (q1.bind (rel := relW) (Q' := fun u H2 => Ex H1 H2 → rCat v u H2 Q) fun F2 H2 e2 y u ef2 hr2 q2 ee => by
    obtain ⟨rv, hd, k⟩ := q2.lift
    obtain ⟨fs, ho⟩ := hr.2
    obtain ⟨R2, gs, ho2⟩ := hr2
    unfold catV at hd
    split at hd
    · rename_i xs ys h1 h2
      split at hd
      · rename_i hz
        cases hd
        obtain ⟨a', vs, rfl, r1, k1⟩ := lstV_ok R2.fh (Own.mono ef2 _ _ _ (fun p _ w z => ee p w z) ho) h1
        obtain ⟨b', us, rfl, r2, k2⟩ := lstV_ok R2.fh ho2 h2
        refine ⟨a', b', vs, us, rfl, rfl, k1, k2, by rw [← r1.length, ← r2.length]; exact hz, fun p hp => k F2 _ (.ref p) (Ex.refl _) (Ex.new hp) (R2.newO hp ⟨p, vs ++ us, [], rfl, rfl, upd_same, owns_im (Reps.append r1 r2)⟩)⟩
      · cases hd
    · cases hd).quiet
  obtain ⟨rr, h1, post⟩ := q2
  refine ⟨rr, h1, ?_⟩
  cases rr with
  | err m e1 x => exact post
  | ok m e1 a => exact fun F' H' v' ef' eh hrel => let z := post F' H' v' ef' eh hrel; z.2 z.1 z.1⟩
end
section
variable {q : Bool} {e : Env}
theorem w_cat {d f : Den O} {P : Rv → Env → Prop} (p : EW q d e fun x e1 => EW true f e1 fun y e2 => OP (catV x y) fun r => P r e2) : EW q (dcat d f) e P := by
  unfold dcat
  simp only [ew_bind, ew_lift, ew_dq]
  exact p
end
/-! ### x.pop() -/
section
variable {X : Cx} {W : WX}
end
/-! ### x[::-1] -/
def lsqV : O → Option (List D)
  | .im (.lst ds) => some ds
  | .im (.scr ds) => some ds
  | .lst os => ims os
  | _ => none
def drev (d : Den O) : Den Rv := dbind d fun o => dlift ((lsqV o).map fun ds => Rv.new (.lst (ds.reverse.map O.im)))
theorem w_rev {q : Bool} {e : Env} {d : Den O} {P : Rv → Env → Prop} (p : EW q d e fun o e' => OP (lsqV o) fun ds => P (.new (.lst (ds.reverse.map O.im))) e') : EW q (drev d) e P := by
  unfold drev
  rw [ew_bind]
  refine ew_imp p fun o e' h => ew_lift.mpr ?_
  obtain ⟨z, hz, p⟩ := h
  exact ⟨_, by rw [hz]; rfl, p⟩
end DL

/-! DLT: own classes: made, fields stored, methods, properties; defaults. -/
namespace DL
open PySem PySem.Spec PyProof.Rows L2 Evl

/-! ### the machine's side, at the caller's slots -/
section
variable {X : Cx} {CX : CXT} {k : Nat} {f C : Addr} {fd : FuncData} {ps : List Str} {sp : Sp} {dvs : List V} {ds : List Value} {E : L2.St → XK} {x m : Str} {p pos apos : Pos} {e o : Expr} {es : List Expr} {ta : TE} {t : TA}
end

/-! ### arguments with defaults; a call -/
section
variable {K : KB} {c : Ctx} {F F' H H' : Hp} {σ : L2.St} {e : Env} {ts : List (V × O)}

theorem arel_of {K : KB} {F : Hp} {σ : L2.St} : ∀ {ds : List D} {ws : List V}, Reps K F ds ws → ARel K F σ (ds.map AR.im) ws
  | [], ws, h => h
  | d :: ds, ws, h => by
    obtain ⟨x, r, rfl, h3, h4⟩ := h
    exact ⟨x, r, rfl, h3, arel_of h4⟩
theorem ARel.append {K : KB} {F : Hp} {σ : L2.St} : ∀ {as : List AR} {vs : List V} {ds : List D} {ws : List V}, ARel K F σ as vs → Reps K F ds ws → ARel K F σ (as ++ ds.map AR.im) (vs ++ ws)
  | [], vs, ds, ws, h, h2 => by
    rw [show vs = [] from h]
    exact arel_of h2
  | .im d :: as, vs, ds, ws, h, h2 => by
    obtain ⟨v, r, rfl, h1, h3⟩ := h
    exact ⟨v, r ++ ws, rfl, h1, ARel.append h3 h2⟩
  | .bor i :: as, vs, ds, ws, h, h2 => by
    obtain ⟨v, r, rfl, h1, h3⟩ := h
    exact ⟨v, r ++ ws, rfl, h1, ARel.append h3 h2⟩
/-- defaults: data that stands at every heap -/
def Dfl (K : KB) (dd : List D) (dvs : List V) : Prop := ∀ F : Hp, Reps K F dd dvs
end
section
variable {X : Cx} {W : WX} {a : Expr} {es : List Expr} {pos p apos : Pos} {x m : Str} {k : Nat} {f C : Addr} {fd : FuncData} {ps : List Str} {fn : FDen} {dd : List D} {dvs : List V} {dl : List Value}

/-! ### a new instance -/
/-! ### o.m(..) -/
/-- the receiver is an instance of C, not hiding m -/
def isC (C : Addr) (m : Str) (a : AR) : Env → Bool := fun e => match a with
  | .im (.ins C' ns ds) => decide (C' = C) && ((ns.zip ds).lookup m).isNone
  | .bor i => match e[i]? with
    | some (some (_, .ins C' ns os)) => decide (C' = C) && ((ns.zip os).lookup m).isNone
    | _ => false
  | _ => false
def dmeth (C : Addr) (m : Str) (n : Nat) (f : FDen) (da : Den Rv) (ds : Den (List AR)) (dd : List D) : Den Rv := dbind (ar1 da) fun a e => if isC C m a e = true then (dbind ds fun as => dfnA n f (a :: (as ++ dd.map AR.im))) e else none
end
end DL

/-! DLU: places within what a slot holds. -/
namespace DL
open PySem PySem.Spec PyProof.Rows L2 Evl

/-! ### parts -/
@[simp] def O.kids : O → Option (List O)
  | .im _ => none
  | .lst xs => some xs
  | .tup xs => some xs
  | .dct _ vs => some vs
  | .ins _ _ vs => some vs
@[simp] def O.setKids : O → List O → O
  | .im d, _ => .im d
  | .lst _, xs => .lst xs
  | .tup _, xs => .tup xs
  | .dct ks _, xs => .dct ks xs
  | .ins C ns _, xs => .ins C ns xs
@[simp] def O.get : List Nat → O → Option O
  | [], o => some o
  | n :: p, o => o.kids.bind fun xs => (xs[n]?).bind (O.get p)
@[simp] def O.put : List Nat → O → O → O
  | [], _, x => x
  | n :: p, o, x => match o.kids with
    | some xs => match xs[n]? with
      | some y => o.setKids (xs.set n (O.put p y x))
      | none => o
    | none => o

/-! ### parts in the heap -/
def Kids (K : KB) (H : Hp) (a : Addr) (xs : List V) : Prop := ∃ ho, H a = some ho ∧ (ho = .lst xs ∨ ho = .tup xs ∨ (∃ (C dx : Addr) (ns : List Str), ns.length = xs.length ∧ ho = .ins C dx (ns.zip xs)) ∨ (∃ kvs : List (Key × V), ho = .dK kvs ∧ xs = kvs.map (·.2)) ∨ ∃ kvs, ho = dX K a kvs ∧ xs = kvs.map (·.2.2))
theorem zip_snd {α β : Type} : ∀ {ns : List α} {xs : List β}, ns.length = xs.length → (ns.zip xs).map (·.2) = xs
  | [], [], _ => rfl
  | [], _ :: _, h => by simp at h
  | _ :: _, [], h => by simp at h
  | n :: ns, x :: xs, h => by
    rw [List.zip_cons_cons, List.map_cons, zip_snd (by simpa using h)]
theorem Kids.fn {K : KB} {H : Hp} {a : Addr} {xs ys : List V} (h : Kids K H a xs) (h' : Kids K H a ys) : xs = ys := by
  obtain ⟨ho, h1, h2⟩ := h
  obtain ⟨ho', h3, h4⟩ := h'
  rw [h1] at h3
  cases h3
  unfold dX at *
  rcases h2 with rfl | rfl | ⟨C, dx, ns, hl, rfl⟩ | ⟨kvs, rfl, rfl⟩ | ⟨kvs, rfl, rfl⟩
  · rcases h4 with e | e | ⟨_, _, _, _, e⟩ | ⟨_, e, _⟩ | ⟨_, e, _⟩ <;> cases e
    rfl
  · rcases h4 with e | e | ⟨_, _, _, _, e⟩ | ⟨_, e, _⟩ | ⟨_, e, _⟩ <;> cases e
    rfl
  · rcases h4 with e | e | ⟨C', dx', ns', hl', e⟩ | ⟨_, e, _⟩ | ⟨_, e, _⟩
    · cases e
    · cases e
    · have e1 := (HO.ins.inj e).2.2
      rw [← zip_snd hl, e1, zip_snd hl']
    · cases e
    · cases e
  · rcases h4 with e | e | ⟨_, _, _, _, e⟩ | ⟨_, e, e2⟩ | ⟨_, e, _⟩ <;> cases e
    exact e2.symm
  · rcases h4 with e | e | ⟨_, _, _, _, e⟩ | ⟨_, e, _⟩ | ⟨kvs', e, e2⟩
    · cases e
    · cases e
    · cases e
    · cases e
    · rw [e2]
      exact dX_inj e
theorem Kids.mono {K : KB} {H H' : Hp} {a : Addr} {xs : List V} (e : Ex H H') (h : Kids K H a xs) : Kids K H' a xs := by
  obtain ⟨ho, h1, h2⟩ := h
  exact ⟨ho, e _ _ h1, h2⟩
def WalkTo (K : KB) (H : Hp) : V → List Nat → V → Prop
  | v, [], w => v = w
  | v, n :: p, w => ∃ a xs x, v = .ref a ∧ Kids K H a xs ∧ xs[n]? = some x ∧ WalkTo K H x p w
theorem WalkTo.fn {K : KB} {H : Hp} : ∀ {p : List Nat} {v w w' : V}, WalkTo K H v p w → WalkTo K H v p w' → w = w'
  | [], v, w, w', h, h' => h.symm.trans h'
  | n :: p, v, w, w', h, h' => by
    obtain ⟨a, xs, x, rfl, h1, h2, h3⟩ := h
    obtain ⟨a', xs', x', e, h4, h5, h6⟩ := h'
    cases e
    have e1 := h1.fn h4
    subst e1
    rw [h2] at h5
    cases h5
    exact h3.fn h6
theorem WalkTo.mono {K : KB} {H H' : Hp} (e : Ex H H') : ∀ {p : List Nat} {v w : V}, WalkTo K H v p w → WalkTo K H' v p w
  | [], v, w, h => h
  | n :: p, v, w, h => by
    obtain ⟨a, xs, x, rfl, h1, h2, h3⟩ := h
    exact ⟨a, xs, x, rfl, h1.mono e, h2, h3.mono e⟩
theorem WalkTo.snoc {K : KB} {H : Hp} {n : Nat} {a : Addr} {xs : List V} {x : V} : ∀ {p : List Nat} {v : V}, WalkTo K H v p (.ref a) → Kids K H a xs → xs[n]? = some x → WalkTo K H v (p ++ [n]) x
  | [], v, h, hk, hx => ⟨a, xs, x, h, hk, hx, rfl⟩
  | m :: p, v, h, hk, hx => by
    obtain ⟨b, ys, y, rfl, h1, h2, h3⟩ := h
    exact ⟨b, ys, y, rfl, h1, h2, h3.snoc hk hx⟩
/-- what is owned, its parts -/
theorem own_kids {K : KB} {F H : Hp} {o : O} {os : List O} {v : V} {fs : List Addr} (h : Own K F H o v fs) (hk : o.kids = some os) : ∃ a xs r, v = .ref a ∧ fs = a :: r ∧ Kids K H a xs ∧ Owns K F H os xs r ∧
    ∀ os' r', Owns K F H os' xs r' → Own K F H (o.setKids os') v (a :: r') := by
  cases o with
  | im d => cases hk
  | lst xs =>
    cases hk
    obtain ⟨a, ys, r, e1, e2, h1, h2⟩ := h
    exact ⟨a, ys, r, e1, e2, ⟨_, h1, .inl rfl⟩, h2, fun os' r' h' => ⟨a, ys, r', e1, rfl, h1, h'⟩⟩
  | tup xs =>
    cases hk
    obtain ⟨a, ys, r, e1, e2, h1, h2⟩ := h
    exact ⟨a, ys, r, e1, e2, ⟨_, h1, .inr (.inl rfl)⟩, h2, fun os' r' h' => ⟨a, ys, r', e1, rfl, h1, h'⟩⟩
  | dct ks vs =>
    cases hk
    obtain ⟨a, ho, ys, r, e1, e2, h1, h0, h2⟩ := h
    refine ⟨a, ys, r, e1, e2, ⟨_, h1, ?_⟩, h2, fun os' r' h' => ⟨a, ho, ys, r', e1, rfl, h1, h0, h'⟩⟩
    rcases h0 with ⟨kvs, e3, _, _, e4⟩ | ⟨kvs, e3, _, _, e4⟩
    · exact .inr (.inr (.inr (.inl ⟨kvs, e3, e4⟩)))
    · exact .inr (.inr (.inr (.inr ⟨kvs, e3, e4⟩)))
  | ins C ns vs =>
    cases hk
    obtain ⟨a, dx, ys, r, e1, e2, h1, h0, h2⟩ := h
    exact ⟨a, ys, r, e1, e2, ⟨_, h1, .inr (.inr (.inl ⟨C, dx, ns, h0, rfl⟩))⟩, h2, fun os' r' h' => ⟨a, dx, ys, r', e1, rfl, h1, h0, h'⟩⟩
theorem owns_out {K : KB} {F H : Hp} : ∀ {os : List O} {xs : List V} {fs : List Addr} {n : Nat} {o : O}, Owns K F H os xs fs → os[n]? = some o → ∃ x f1 f0 f2, xs[n]? = some x ∧ fs = f1 ++ (f0 ++ f2) ∧ Own K F H o x f0 ∧
    ∀ (o' : O) (f0' : List Addr), Own K F H o' x f0' → Owns K F H (os.set n o') xs (f1 ++ (f0' ++ f2))
  | [], xs, fs, n, o, h, e => by simp at e
  | o0 :: os, xs, fs, 0, o, h, e => by
    have eo : o0 = o := by simpa using e
    subst eo
    obtain ⟨y, r, f1, f2, rfl, rfl, h1, h2⟩ := h
    exact ⟨y, [], f1, f2, rfl, rfl, h1, fun o' f0' ho => ⟨y, r, f0', f2, rfl, rfl, ho, h2⟩⟩
  | o0 :: os, xs, fs, n + 1, o, h, e => by
    obtain ⟨y, r, f1, f2, rfl, rfl, h1, h2⟩ := h
    obtain ⟨x, g1, g0, g2, k1, k2, k3, k4⟩ := owns_out h2 (show os[n]? = some o by simpa using e)
    subst k2
    exact ⟨x, f1 ++ g1, g0, g2, by simpa using k1, by rw [List.append_assoc], k3, fun o' f0' ho => by
      rw [List.append_assoc]
      exact ⟨y, r, f1, g1 ++ (f0' ++ g2), rfl, rfl, h1, k4 o' f0' ho⟩⟩
theorem put_cons {n : Nat} {p : List Nat} {o y x : O} {os : List O} (h1 : o.kids = some os) (h2 : os[n]? = some y) : O.put (n :: p) o x = o.setKids (os.set n (O.put p y x)) := by
  rw [O.put, h1]
  dsimp only
  rw [h2]
/-- a part, taken out; adr a stands where it was -/
theorem own_out {K : KB} {F H : Hp} : ∀ {p : List Nat} {o0 tgt : O} {v : V} {fs : List Addr}, Own K F H o0 v fs → O.get p o0 = some tgt → tgt.kids.isSome = true →
    ∃ a f1 f2, WalkTo K H v p (.ref a) ∧ Own K F H tgt (.ref a) f1 ∧ fs.Perm (f1 ++ f2) ∧ Own K F H (O.put p o0 (.im (.adr a))) v f2
  | [], o0, tgt, v, fs, h, hg, hk => by
    cases hg
    obtain ⟨os, hos⟩ := Option.isSome_iff_exists.mp hk
    obtain ⟨a, xs, r, rfl, _⟩ := own_kids h hos
    exact ⟨a, fs, [], rfl, h, by rw [List.append_nil], ⟨rfl, rfl⟩⟩
  | n :: p, o0, tgt, v, fs, h, hg, hk => by
    unfold O.get at hg
    obtain ⟨os, h1, h2⟩ := Option.bind_eq_some_iff.mp hg
    obtain ⟨y, h3, h4⟩ := Option.bind_eq_some_iff.mp h2
    obtain ⟨b, xs, r, rfl, rfl, hkid, hown, back⟩ := own_kids h h1
    obtain ⟨x, g1, g0, g2, k1, k2, k3, k4⟩ := owns_out hown h3
    obtain ⟨a, f1, f2, w1, w2, w3, w4⟩ := own_out k3 h4 hk
    refine ⟨a, f1, b :: (g1 ++ (f2 ++ g2)), ⟨b, xs, x, rfl, hkid, k1, w1⟩, w2, ?_, ?_⟩
    · rw [k2]
      have e1 : (b :: (g1 ++ (g0 ++ g2))).Perm (b :: (g1 ++ ((f1 ++ f2) ++ g2))) := List.Perm.cons b (List.Perm.append_left g1 (List.Perm.append_right g2 w3))
      refine e1.trans ?_
      have e2 : (g1 ++ ((f1 ++ f2) ++ g2)).Perm (f1 ++ (g1 ++ (f2 ++ g2))) := by
        rw [List.append_assoc, ← List.append_assoc, ← List.append_assoc f1]
        exact List.Perm.append_right _ List.perm_append_comm
      exact (List.Perm.cons b e2).trans List.perm_middle.symm
    · rw [put_cons h1 h3]
      exact back _ _ (k4 _ _ w4)

section
variable {K : KB} {c : Ctx} {F F' H H' : Hp} {σ : L2.St} {e : Env} {ts : List (V × O)}
theorem RE.outP {i : Nat} {b : Bool} {o0 tgt : O} {p : List Nat} (R : RE K c F H σ e ts) (h : e[i]? = some (some (b, o0))) (hg : O.get p o0 = some tgt) (hk : tgt.kids.isSome = true) :
    ∃ v a, σ[i]? = some (some v) ∧ WalkTo K H v p (.ref a) ∧ RE K c F H σ (e.set i (some (b, O.put p o0 (.im (.adr a))))) ((.ref a, tgt) :: ts) := by
  obtain ⟨hs, fs, h1, h2, h3, h4⟩ := R.hd
  obtain ⟨v, A, B, k1, k2, k3, k4⟩ := h1.at i h
  subst k1
  rw [← List.append_assoc] at h2
  obtain ⟨f1, f2, rfl, q1, q2⟩ := h2.split
  obtain ⟨g0, g2, rfl, q3, q4⟩ := q2
  obtain ⟨a, w1, w2, z1, z2, z3, z4⟩ := own_out q3 hg hk
  have pm : (f1 ++ (g0 ++ g2)).Perm (w1 ++ (f1 ++ (w2 ++ g2))) := by
    refine (List.Perm.append_left f1 (List.Perm.append_right g2 z3)).trans ?_
    rw [List.append_assoc, ← List.append_assoc, ← List.append_assoc w1]
    exact List.Perm.append_right _ List.perm_append_comm
  refine ⟨v, a, k2, z1, R.g, R.f0, R.fh, R.nw, _, w1 ++ (f1 ++ (w2 ++ g2)), k4 _, ⟨w1, _, rfl, z2, ?_⟩, pm.nodup_iff.mp h3, fun p hp => h4 p (pm.mem_iff.mpr hp)⟩
  show Held K F H (ts ++ (A ++ (v, O.put p o0 (O.im (D.adr a))) :: B)) (f1 ++ (w2 ++ g2))
  rw [← List.append_assoc]
  exact Held.join q1 ⟨w2, g2, rfl, z4, q4⟩
end
end DL

/-! DLV: dicts, the machine's side: keys ints and texts, or tuples of these (tracked or written). -/
namespace DL
open PySem PySem.Spec PyProof.Rows L2 Evl

abbrev XK3 := List Key × Addr × V
abbrev PX : List XK3 → List (List Key × Addr × Value) → Prop := Paired fun p q => p.1 = q.1 ∧ p.2.1 = q.2.1 ∧ RelV p.2.2 q.2.2
def valX (kvs : List XK3) (k : List Key) : Option V := (kvs.find? fun p => decide (p.1 = k)).map (·.2.2)
def repX (k : List Key) (v : V) (p : XK3) : XK3 := if p.1 = k then (p.1, p.2.1, v) else p
def putX (kvs : List XK3) (k : List Key) (b : Addr) (v : V) : List XK3 := if (valX kvs k).isSome then kvs.map (repX k v) else kvs ++ [(k, b, v)]
def dropX (kvs : List XK3) (k : List Key) : List XK3 := kvs.filter fun p => decide (p.1 ≠ k)
def hoT (K : KB) (a : Addr) : List XK3 → HO
  | [] => .dK []
  | p :: r => dX K a (p :: r)
/-- at a stands a dict whose keys are tuples -/
def TD (K : KB) (H : Hp) (a : Addr) (kvs : List XK3) : Prop := H a = some (hoT K a kvs) ∧ (kvs ≠ [] → KeysOk K H a kvs)
/-- .. or while a loop walks it -/
def TDr (K : KB) (H : Hp) (a : Addr) (kvs : List XK3) : Prop := Rd H a (hoT K a kvs) ∧ (kvs ≠ [] → KeysOk K H a kvs)
theorem TD.r {K : KB} {H : Hp} {a : Addr} {kvs : List XK3} (h : TD K H a kvs) : TDr K H a kvs := ⟨.inl h.1, h.2⟩
theorem PX.val {kvs : List XK3} {xs : List (List Key × Addr × Value)} (r : PX kvs xs) (k : List Key) : RelO (valX kvs k) ((atKey xs k).map (·.2)) := by
  induction r with
  | nil => exact True.intro
  | @cons p q ps qs h t ih =>
    obtain ⟨h1, _, h2⟩ := h
    by_cases e : p.1 = k
    · have e' : q.1 = k := h1.symm.trans e
      have a : valX (p :: ps) k = some p.2.2 := by simp [valX, List.find?_cons, e]
      have b : atKey (q :: qs) k = some q.2 := by simp [atKey, List.find?_cons, e']
      rw [a, b]; exact h2
    · have e' : ¬ q.1 = k := fun z => e (h1.trans z)
      have a : valX (p :: ps) k = valX ps k := by simp [valX, List.find?_cons, e]
      have b : atKey (q :: qs) k = atKey qs k := by simp [atKey, List.find?_cons, e']
      rw [a, b]; exact ih
theorem PX.repl {kvs : List XK3} {xs : List (List Key × Addr × Value)} (r : PX kvs xs) (k : List Key) {y : V} {u : Value} (ry : RelV y u) : PX (kvs.map (repX k y)) (xs.map (putAt k u)) := by
  induction r with
  | nil => exact .nil
  | @cons p q ps qs h t ih =>
    rw [List.map_cons, List.map_cons]
    refine .cons ?_ ih
    obtain ⟨h1, h2, h3⟩ := h
    unfold putAt repX
    by_cases e : p.1 = k
    · rw [if_pos e, if_pos (h1.symm.trans e)]; exact ⟨h1, h2, ry⟩
    · rw [if_neg e, if_neg (fun z => e (h1.trans z))]; exact ⟨h1, h2, h3⟩
theorem PX.put {kvs : List XK3} {xs : List (List Key × Addr × Value)} (r : PX kvs xs) (k : List Key) {b : Addr} {y : V} {u : Value} (ry : RelV y u) : PX (putX kvs k b y) (storedH xs k b u) := by
  have e : (valX kvs k).isSome = (atKey xs k).isSome := by rw [(r.val k).isSome_eq, Option.isSome_map]
  unfold putX storedH
  rw [e]
  by_cases q : (atKey xs k).isSome = true
  · rw [if_pos q, if_pos q]; exact r.repl k ry
  · rw [if_neg q, if_neg q]; exact Paired.snoc r ⟨rfl, rfl, ry⟩
theorem PX.drop {kvs : List XK3} {xs : List (List Key × Addr × Value)} (r : PX kvs xs) (k : List Key) : PX (dropX kvs k) (withoutH xs k) := by
  unfold dropX withoutH
  induction r with
  | nil => exact .nil
  | @cons p q ps qs h t ih =>
    obtain ⟨h1, h2⟩ := h
    rw [List.filter_cons, List.filter_cons]
    by_cases e : p.1 = k
    · have a : ¬ decide (p.1 ≠ k) = true := by simp [e]
      have b : ¬ decide (q.1 ≠ k) = true := by simp [h1.symm.trans e]
      rw [if_neg a, if_neg b]; exact ih
    · have e' : ¬ q.1 = k := fun z => e (h1.trans z)
      have a : decide (p.1 ≠ k) = true := by simp [e]
      have b : decide (q.1 ≠ k) = true := by simp [e']
      rw [if_pos a, if_pos b]; exact .cons ⟨h1, h2⟩ ih
theorem PX.keys {kvs : List XK3} {xs : List (List Key × Addr × Value)} (r : PX kvs xs) : kvs.map (·.1) = xs.map (·.1) := by
  induction r with
  | nil => rfl
  | cons h t ih => rw [List.map_cons, List.map_cons, ih, h.1]
section
variable {X : Cx} {pins : List (Addr × Obj)} {σ : L2.St} {H : Hp} {s : Shared} {a b : Addr} {y v d : V} {u r : Value} {o : Option V} {A : Around} {E : Value → Shared → Prop} {kvs : List XK3} {k : List Key}
end
section
variable {X : Cx} {pins : List (Addr × Obj)} {σ : L2.St} {H : Hp} {s : Shared} {a b : Addr}
end
/-! ### rules -/
section
variable {X : Cx}
end
end DL

/-! DLW: dicts as data. -/
namespace DL
open PySem PySem.Spec PyProof.Rows L2 Evl

/-! ### keys -/
def kyD : D → Option Key
  | .int i => some (.inl i)
  | .str x => some (.inr x)
  | _ => none
def kyDs : List D → Option (List Key)
  | [] => some []
  | d :: ds => match kyD d, kyDs ds with
    | some k, some ks => some (k :: ks)
    | _, _ => none
def kyOf : D → Option (Key ⊕ List Key)
  | .int i => some (.inl (.inl i))
  | .str x => some (.inl (.inr x))
  | .tup ds => (kyDs ds).map .inr
  | _ => none
def kix (ks : List D) (k : D) : Option Nat := ks.findIdx? fun d => decide (kyOf d = kyOf k)
def okKey (ks : List D) (k : D) : Bool := match kyOf k, ks with
  | none, _ => false
  | some _, [] => true
  | some (.inl _), .int _ :: _ => true
  | some (.inl _), .str _ :: _ => true
  | some (.inr _), .tup _ :: _ => true
  | _, _ => false
/-! ### lists of pairs -/
section
variable {κ β : Type} [DecidableEq κ]
end

/-! ### what a dict holds -/
section
variable {K : KB} {F H : Hp} {a : Addr} {ho : HO} {ks : List D} {xs : List V} {k : D} {y v : V}
/-- d[k] = v -/
def putKs (ks : List D) (k : D) : List D := match kix ks k with
  | some _ => ks
  | none => ks ++ [k]
def putVs {α : Type} (ks : List D) (k : D) (xs : List α) (v : α) : List α := match kix ks k with
  | some n => xs.set n v
  | none => xs ++ [v]
end
end DL

/-! DLX: dicts seen; places as expressions. -/
namespace DL
open PySem PySem.Spec PyProof.Rows L2 Evl

/-! ### dicts, seen -/
def elemOX : O → D → Option O
  | .dct ks vs, k => if okKey ks k = true then (kix ks k).bind fun n => vs[n]? else none
  | .im (.dct ks ds), k => if okKey ks k = true then ((kix ks k).bind fun n => ds[n]?).map O.im else none
  | o, k => elemOO o k
def dixX (d : Den O) (di : Den D) : Den O := dbind d fun o => dbind (dq di) fun i => dlift (elemOX o i)
section
variable {X : Cx}
end
section
variable {X : Cx} {W : WX} {a b ex : Expr} {pos p : Pos} {x : Str}
/-! ### d.get(k), d.get(k, x) -/
def getOX (o : O) (k : D) (x : O) : Option O := match o with
  | .dct ks vs => if okKey ks k = true then some (((kix ks k).bind fun n => vs[n]?).getD x) else none
  | .im (.dct ks ds) => if okKey ks k = true then some ((((kix ks k).bind fun n => ds[n]?).map O.im).getD x) else none
  | _ => none
/-! ### list(d) -/
def keysOX : O → Option (List D)
  | .dct ks _ => some ks
  | .im (.dct ks _) => some ks
  | _ => none
def dlistX (d : Den O) : Den Rv := dbind d fun o => dlift ((keysOX o).map fun ds => Rv.new (.lst (ds.map O.im)))
end
section
variable {X : Cx} {W : WX} {a b ex : Expr} {pos p : Pos} {x : Str}
/-! ### {} -/
end
end DL

/-! DLY: places: stores, removals, calls. -/
namespace DL
open PySem PySem.Spec PyProof.Rows L2 Evl

/-! ### places as expressions -/
abbrev Pl := Nat × List Nat
def relP : Rel Pl V := fun K c F H σ e ts pl v => RE K c F H σ e ts ∧ ∃ v0, σ[pl.1]? = some (some v0) ∧ WalkTo K H v0 pl.2 v
structure DPl (X : Cx) (W : WX) (ex : Expr) (den : Den Pl) : Prop where
  run : PE X ex (rd relP X.B W den)
section
variable {K : KB} {c : Ctx} {F F' H H' : Hp} {σ : L2.St} {e : Env} {ts : List (V × O)}
end
def fix (ns : List Str) (f : Str) : Option Nat := ns.findIdx? fun n => f == n
section
variable {X : Cx} {W : WX} {a b ex : Expr} {pos p : Pos}
end
end DL

/-! DLZ: places: stores, removals, methods. -/
namespace DL
open PySem PySem.Spec PyProof.Rows L2 Evl

section
variable {K : KB} {c : Ctx} {F F' H H' : Hp} {σ : L2.St} {e : Env} {ts : List (V × O)}
theorem upd_keep {a : Addr} {u : HO} {fs : List Addr} (h : ∀ p ∈ fs, p ≠ a) : ∀ p ∈ fs, ∀ w, H p = some w → upd H a u p = some w := fun p hp w z => by rw [upd_ne (h p hp)]; exact z
/-- a temporary, opened: it may be changed where it stands -/
theorem RE.openT {a : Addr} {t : O} {os : List O} {A : List (V × O)} (R : RE K c F H σ e ((.ref a, t) :: (A ++ ts))) (hk : t.kids = some os) :
    ∃ r fA, Own K F H t (.ref a) (a :: r) ∧ (∃ xs, Kids K H a xs ∧ Owns K F H os xs r) ∧ Held K F H A fA ∧ (r ++ fA).Nodup ∧ (∀ p ∈ r ++ fA, p ≠ a) ∧ ∀ u t' fs' B fB, Own K F (upd H a u) t' (.ref a) (a :: fs') → Held K F (upd H a u) B fB → (fs' ++ fB).Nodup → (∀ p ∈ fs' ++ fB, p ∈ r ++ fA) →
      RE K c F (upd H a u) σ e ((.ref a, t') :: (B ++ ts)) := by
  obtain ⟨hs, fs, h1, h2, h3, h4⟩ := R.hd
  obtain ⟨f1, f2, rfl, ho, h2⟩ := h2
  have h2 : Held K F H (A ++ (ts ++ hs)) f2 := by rw [← List.append_assoc]; exact h2
  obtain ⟨fA, f3, rfl, hA, h5⟩ := h2.split
  obtain ⟨a', xs, r, ea, e1, hkd, hos, _⟩ := own_kids ho hk
  cases ea
  subst e1
  have nd := List.nodup_append.mp h3
  have nd1 := List.nodup_cons.mp nd.1
  have nd2 := List.nodup_append.mp nd.2.1
  have ne : ∀ p ∈ r ++ fA, p ≠ a := fun p hp z => by
    subst z
    rcases List.mem_append.mp hp with hp | hp
    · exact nd1.1 hp
    · exact nd.2.2 p List.mem_cons_self p (List.mem_append_left _ hp) rfl
  have ne3 : ∀ p ∈ f3, p ≠ a := fun p hp z => by
    subst z
    exact nd.2.2 p List.mem_cons_self p (List.mem_append_right _ hp) rfl
  have fa : F a = none ∧ c.G a = none := h4 a (List.mem_append_left _ List.mem_cons_self)
  refine ⟨r, fA, ho, ⟨xs, hkd, hos⟩, hA, List.nodup_append.mpr ⟨nd1.2, nd2.1, fun x hx y hy => nd.2.2 x (List.mem_cons_of_mem _ hx) y (List.mem_append_left _ hy)⟩, ne, ?_⟩
  intro u t' fs' B fB ho' hB ndn sub
  have out3 : ∀ p ∈ fs' ++ fB, p ∉ f3 := fun p hp hp3 => by
    rcases List.mem_append.mp (sub p hp) with z | z
    · exact nd.2.2 p (List.mem_cons_of_mem _ z) p (List.mem_append_right _ hp3) rfl
    · exact nd2.2.2 p z p hp3 rfl
  refine ⟨fun p w z => ?_, R.f0, fun p w z => ?_, R.nw, hs, (a :: fs') ++ (fB ++ f3), h1, ⟨a :: fs', fB ++ f3, rfl, ho', ?_⟩, ?_, fun p hp => ?_⟩
  · rw [upd_ne (fun w => by subst w; rw [fa.2] at z; cases z)]
    exact R.g p w z
  · rw [upd_ne (fun w => by subst w; rw [fa.1] at z; cases z)]
    exact R.fh p w z
  · show Held K F (upd H a u) ((B ++ ts) ++ hs) (fB ++ f3)
    rw [List.append_assoc]
    exact Held.join hB (Held.mono (Ex.refl _) (upd_keep ne3) h5)
  · rw [List.cons_append, ← List.append_assoc, List.nodup_cons]
    refine ⟨fun hp => ?_, List.nodup_append.mpr ⟨ndn, nd2.2.1, fun x hx y hy z => out3 x hx (z ▸ hy)⟩⟩
    rcases List.mem_append.mp hp with z | z
    · exact ne a (sub a z) rfl
    · exact ne3 a z rfl
  · rcases List.mem_append.mp hp with z | z
    · rcases List.mem_cons.mp z with z | z
      · rw [z]; exact fa
      · rcases List.mem_append.mp (sub p (List.mem_append_left _ z)) with w | w
        · exact h4 p (List.mem_append_left _ (List.mem_cons_of_mem _ w))
        · exact h4 p (List.mem_append_right _ (List.mem_append_left _ w))
    · rcases List.mem_append.mp z with z | z
      · rcases List.mem_append.mp (sub p (List.mem_append_right _ z)) with w | w
        · exact h4 p (List.mem_append_left _ (List.mem_cons_of_mem _ w))
        · exact h4 p (List.mem_append_right _ (List.mem_append_left _ w))
      · exact h4 p (List.mem_append_right _ (List.mem_append_right _ z))
theorem held_one {v : V} {o : O} {fA : List Addr} (h : Held K F H [(v, o)] fA) : Own K F H o v fA := by
  obtain ⟨f1, f2, rfl, h1, h2⟩ := h
  rw [show f2 = [] from h2, List.append_nil]
  exact h1
theorem owns_set2 {os : List O} {xs : List V} {r fv : List Addr} {n : Nat} {o : O} {v : V} (h : Owns K F H os xs r) (hv : Own K F H o v fv) (nd : (r ++ fv).Nodup) (hn : n < os.length) : ∃ fs', Owns K F H (os.set n o) (xs.set n v) fs' ∧ fs'.Nodup ∧ ∀ p ∈ fs', p ∈ r ++ fv := by
  induction os generalizing xs r n with
  | nil => simp at hn
  | cons o0 os ih =>
    obtain ⟨y, t, f1, f2, rfl, rfl, h1, h2⟩ := h
    cases n with
    | zero =>
      have nd2 := List.nodup_append.mp nd
      have nd3 := List.nodup_append.mp nd2.1
      refine ⟨fv ++ f2, ⟨v, t, fv, f2, rfl, rfl, hv, h2⟩, List.nodup_append.mpr ⟨nd2.2.1, nd3.2.1, fun a ha b hb z => nd2.2.2 b (List.mem_append_right _ hb) a ha z.symm⟩, fun p hp => ?_⟩
      rcases List.mem_append.mp hp with z | z <;> simp [z]
    | succ n =>
      have nd' : (f2 ++ fv).Nodup := by
        rw [List.append_assoc] at nd
        exact (List.nodup_append.mp nd).2.1
      obtain ⟨fs', k1, k2, k3⟩ := ih h2 nd' (by simpa using hn)
      refine ⟨f1 ++ fs', ⟨y, t.set n v, f1, fs', rfl, rfl, h1, k1⟩, ?_, fun p hp => ?_⟩
      · rw [List.append_assoc] at nd
        have nd2 := List.nodup_append.mp nd
        exact List.nodup_append.mpr ⟨nd2.1, k2, fun a ha b hb => nd2.2.2 a ha b (k3 b hb)⟩
      · rcases List.mem_append.mp hp with z | z
        · simp [z]
        · have := k3 p z
          rw [List.append_assoc]
          exact List.mem_append_right _ this
theorem owns_snoc {os : List O} {xs : List V} {r fv : List Addr} {o : O} {v : V} (h : Owns K F H os xs r) (hv : Own K F H o v fv) : Owns K F H (os ++ [o]) (xs ++ [v]) (r ++ fv) :=
  h.append ⟨v, [], fv, [], rfl, by simp, hv, rfl, rfl⟩
/-! ### dicts -/
/-! ### lists -/
/-! ### fields -/
def putN (ns : List Str) (f : Str) : List Str := match fix ns f with
  | some _ => ns
  | none => ns ++ [f]
def putW {α : Type} (ns : List Str) (f : Str) (xs : List α) (v : α) : List α := match fix ns f with
  | some n => xs.set n v
  | none => xs ++ [v]
theorem putF_zip {f : Str} {v : V} : ∀ {ns : List Str} {xs : List V}, ns.length = xs.length → putF f v (ns.zip xs) = (putN ns f).zip (putW ns f xs v) ∧ (putN ns f).length = (putW ns f xs v).length
  | [], [], _ => ⟨rfl, rfl⟩
  | [], _ :: _, h => by simp at h
  | _ :: _, [], h => by simp at h
  | m :: ns, x :: xs, h => by
    obtain ⟨k1, k2⟩ := putF_zip (f := f) (v := v) (ns := ns) (xs := xs) (by simpa using h)
    rw [List.zip_cons_cons, putF]
    unfold putN putW fix at *
    rw [List.findIdx?_cons]
    by_cases q : m = f
    · rw [if_pos q]
      have : (f == m) = true := by rw [q]; exact beq_self_eq_true f
      rw [this]
      refine ⟨?_, by simpa using h⟩
      simp
    · rw [if_neg q]
      have : (f == m) = false := by rw [beq_eq_false_iff_ne]; exact fun z => q z.symm
      rw [this]
      cases h3 : (ns.findIdx? fun n => f == n) with
      | none =>
        rw [h3] at k1 k2
        refine ⟨?_, by simpa using k2⟩
        rw [k1]
        rfl
      | some n =>
        rw [h3] at k1 k2
        refine ⟨?_, by simpa using k2⟩
        rw [k1]
        rfl
theorem RE.tFld {a C : Addr} {ns : List Str} {vs : List O} {v : V} {o : O} {f : Str} (R : RE K c F H σ e ((.ref a, .ins C ns vs) :: ((v, o) :: ts))) :
    ∃ dx fs, H a = some (.ins C dx fs) ∧ fs.length = vs.length ∧ RE K c F (upd H a (.ins C dx (putF f v fs))) σ e ((.ref a, .ins C (putN ns f) (putW ns f vs o)) :: ts) := by
  obtain ⟨r, fA, ho, _, hA, nd, ne, back⟩ := RE.openT (A := [(v, o)]) R rfl
  obtain ⟨a', dx, xs, r', ea, er, h1, h0, hos⟩ := ho
  cases ea
  cases er
  have hv := held_one hA
  obtain ⟨k1, k2⟩ := putF_zip (f := f) (v := v) h0
  refine ⟨dx, _, h1, by rw [List.length_zip, h0, hos.length, Nat.min_self], ?_⟩
  have mv : Owns K F (upd H a (.ins C dx (putF f v (ns.zip xs)))) vs xs r := Owns.mono (Ex.refl _) _ _ _ (upd_keep fun p hp => ne p (List.mem_append_left _ hp)) hos
  have mo : Own K F (upd H a (.ins C dx (putF f v (ns.zip xs)))) o v fA := Own.mono (Ex.refl _) _ _ _ (upd_keep fun p hp => ne p (List.mem_append_right _ hp)) hv
  have key : ∃ fs', Owns K F (upd H a (.ins C dx (putF f v (ns.zip xs)))) (putW ns f vs o) (putW ns f xs v) fs' ∧ fs'.Nodup ∧ ∀ p ∈ fs', p ∈ r ++ fA := by
    unfold putW
    cases hn : fix ns f with
    | some n =>
      have : n < ns.length := (List.findIdx?_eq_some_iff_findIdx_eq.mp hn).1
      rw [h0, ← hos.length] at this
      exact owns_set2 mv mo nd this
    | none => exact ⟨_, owns_snoc mv mo, nd, fun p hp => hp⟩
  obtain ⟨fs', q1, q2, q3⟩ := key
  exact back _ _ fs' [] [] ⟨a, dx, _, fs', rfl, rfl, by rw [upd_same, k1], k2, q1⟩ rfl (by simpa using q2) (by simpa using q3)
end
end DL

/-! DMA: statements over places. -/
namespace DL
open PySem PySem.Spec PyProof.Rows L2 Evl

/-- the rest of a statement behind a quiet expression -/
theorem AtS.q {K : KB} {W : WX} {α β : Type} {rel : Rel α β} {den : Den α} {f : α → SDen} {D : Ends} {c : Ctx} {F H : Hp} {σ : L2.St} {e : Env} {ts : List (V × O)} {Q' : β → Hp → Prop} (h : AtS K W (DL.sbind (dq den) f) D c F σ e ts H)
    (k : ∀ F1 H1 e1 a v, Ex F F1 → Ex H H1 → rel K c F1 H1 σ e1 ts a v → AtS K W (f a) D c F1 σ e1 ts H1 → Q' v H1) : At rel K W den c F σ e ts H Q' :=
  (h.sbind (rel := rel) (Q' := fun v H1 => Ex H H1 → Q' v H1) fun F1 H1 e1 a v ef hr q ee => k F1 H1 e1 a v ef ee hr q).toQ
theorem At.q {K : KB} {W : WX} {α β γ δ : Type} {rel : Rel α β} {rel2 : Rel γ δ} {den : Den α} {f : α → Den γ} {c : Ctx} {F H : Hp} {σ : L2.St} {e : Env} {ts : List (V × O)} {Q : δ → Hp → Prop} {Q' : β → Hp → Prop} (h : At rel2 K W (dbind (dq den) f) c F σ e ts H Q)
    (k : ∀ F1 H1 e1 a v, Ex F F1 → Ex H H1 → rel K c F1 H1 σ e1 ts a v → At rel2 K W (f a) c F1 σ e1 ts H1 Q → Q' v H1) : At rel K W den c F σ e ts H Q' :=
  (h.bind (rel := rel) (Q' := fun v H1 => Ex H H1 → Q' v H1) fun F1 H1 e1 a v ef hr q ee => k F1 H1 e1 a v ef ee hr q).toQ
/-! ### P[k] = e -/
section
variable {X : Cx} {W : WX} {a b ex : Expr} {pos p : Pos}
/-! ### del P[k] -/
/-! ### P.pop(k) -/
/-! ### P.pop() -/
/-! ### P.append(e) -/
/-! ### P.extend(e), e a new list -/
/-! ### P.f = e -/
end
end DL

/-! DMB: methods of what stands at a place; properties; operators of own classes; sorted. -/
namespace DL
open PySem PySem.Spec PyProof.Rows L2 Evl

/-! ### P.m(..) -/
section
variable {K : KB} {c : Ctx} {F F' H H' : Hp} {σ : L2.St} {e : Env} {ts : List (V × O)}
end
section
variable {X : Cx} {W : WX} {a : Expr} {es : List Expr} {pos p apos : Pos} {m : Str} {k : Nat} {f C : Addr} {fd : FuncData} {ps : List Str} {fn : FDen} {dd : List D} {dvs : List V} {dl : List Value}
end
end DL

/-! DMC: own classes: walked over, operators, properties. -/
namespace DL
open PySem PySem.Spec PyProof.Rows L2 Evl

/-! ### an own __iter__ that hands a tuple's iterator back -/
def ItT (t it : Addr) (i : Nat) : HO := .ext fun h => h.IsTupleIter it t i
def rIterT (X : Cx) : List V → Hp → VK → Prop := fun xs H Q => ∃ t zs, xs = [.ref t] ∧ SqT X.K H t zs ∧ ∀ it, H it = none → X.s_0.heap.objs.size ≤ it → Q (.ref it) (upd H it (ItT t it 0))
/-- the def of __iter__: return iter(self.fld) -/
structure ItFn (P : Program) (w : World) (K : PySem.W.Frag) (mg : Str → Option Value) (base : Heap) (C f : Addr) (fld : Str) : Prop where
  at_ : PySem.W.findIn K (.ref C) "__iter__" = some (some (.ref f))
  fn : PySem.W.isFn K (.ref f) = true
  cls : Cls K C
  nat : NoAttr K C fld
  ex : ∃ (x qual : Str) (st : Stmt) (fd : FuncData), Df K x qual st f fd ∧ FnScope ["self"] ["self"] (defScope st) ∧ Binds K fd ["self"] [] ∧ ∀ cdv A outer s H E,
    PSs (cxOf (L2.CX P w) P w K mg base ["self"] qual (defScope st) f cdv A outer s H E) (defBody st) (tRet (tCB (rIterT (cxOf (L2.CX P w) P w K mg base ["self"] qual (defScope st) f cdv A outer s H E)) (tCons (tFld K (tVar 0) fld) tNil)))
section
variable {X : Cx} {C f : Addr} {fld : Str}
end
end DL

/-! DMD: loops over own instances; operators. -/
namespace DL
open PySem PySem.Spec PyProof.Rows L2 Evl

/-- the items of an instance of C: its field's -/
def insSeq (C : Addr) (fld : Str) : D → Option (List D)
  | .ins C' ns ds => if C' = C then (match (ns.zip ds).lookup fld with
    | some (.tup xs) => some xs
    | _ => none) else none
  | _ => none
def sforC (C : Addr) (fld : Str) (it : Den Rv) (bind : D → Env → Option Env) (body : SDen) : SDen := sbind it fun rv e => match rv with
  | .im d => match insSeq C fld d with
    | some ds => sloop bind body ds e
    | none => match seqD d with
      | some ds => sloop bind body ds e
      | none => none
  | .new o => match seqD o.flat with
    | some ds => sloop bind body ds e
    | none => none
  | .bor i _ => match e[i]? with
    | some (some (_, o)) => match seqO o with
      | some ds => slend i (sloop bind body ds) e
      | none => none
    | _ => none
section
variable {X : Cx} {W : WX} {tg iter : Expr} {body : List Stmt} {pos : Pos} {it : Den Rv} {bind : D → Env → Option Env} {sl : List Nat} {db : SDen}

/-- a frozen source, an own instance among them -/
def sqC (C : Addr) (fld : Str) (d : Den D) : Den (List D) := dbind d fun x => dlift (match insSeq C fld x with
  | some ds => some ds
  | none => seqD x)
end
end DL

/-! DME: operators, properties, static methods of own classes; their instances told apart. -/
namespace DL
open PySem PySem.Spec PyProof.Rows L2 Evl

/-! ### a def called by the machine, its arguments frozen, letting nothing out -/
section
variable {X : Cx} {C f : Addr} {k n : Nat} {fd : FuncData} {ps : List Str} {fn : FDen}
/-- an own method, found for an operator -/
structure OwnM (X : Cx) (C : Addr) (m : Str) (f : Addr) (k n : Nat) (fn : FDen) : Prop where
  at_ : PySem.W.findIn X.K (.ref C) m = some (some (.ref f))
  isf : PySem.W.isFn X.K (.ref f) = true
  ok : ∃ fd ps, FnOk X.prog X.w X.K X.mg X.base (L2.CX X.prog X.w) k f fd ps (spD X.B n fn) ∧ Binds X.K fd ps []
/-! ### -x, truth, in -/
end
section
variable {X : Cx} {W : WX} {a b ex : Expr} {pos p : Pos} {C f : Addr} {k : Nat} {fn : FDen} {da db : Den D}
def dun (g : D → Option D) (d : Den D) : Den D := dbind d fun x => dlift (g x)
end
end DL

/-! DMF: sorted of ints, of texts, of tuples of ints and texts: any length. -/
namespace DL
open PySem PySem.Spec PyProof.Rows L2 Evl

/-! ### the machine: items by their keys -/
abbrev SK := Int ⊕ List Nat
abbrev ltK (a b : List SK) : Bool := lexLt itemOrd a b
def itK : V → Option SK
  | .int i => some (.inl i)
  | .str s => some (.inr s.cps.toList)
  | _ => none
def isSt : SK → Bool
  | .inl _ => false
  | .inr _ => true
/-- all of one kind -/
def AllK (K : PySem.W.Frag) (H : Hp) (xs : List V) : Prop := (∀ x ∈ xs, ∃ i, x = .int i) ∨ (∀ x ∈ xs, ∃ s, x = .str s) ∨
  ∃ sh : List Bool, sh ≠ [] ∧ ∀ x ∈ xs, ∃ t zs l, x = .ref t ∧ SqT K H t zs ∧ zs.mapM itK = some l ∧ l.map isSt = sh
section
variable {prog : Program} {w : World} {A : Around} {s : Shared}
end
section
variable {X : Cx}
end
end DL

/-! DMG: sorted at D. -/
namespace DL
open PySem PySem.Spec PyProof.Rows L2 Evl
def keyIt : D → Option SK
  | .int i => some (.inl i)
  | .str s => some (.inr s.cps.toList)
  | _ => none
def keyT : D → Option (List SK)
  | .int i => some [.inl i]
  | .str s => some [.inr s.cps.toList]
  | .tup ds => ds.mapM keyIt
  | _ => none
def kk (d : D) : List SK := (keyT d).getD []
def isI : D → Bool
  | .int _ => true
  | _ => false
def isS : D → Bool
  | .str _ => true
  | _ => false
def shOf : D → Option (List Bool)
  | .tup ds => (ds.mapM keyIt).map fun l => l.map isSt
  | _ => none
def okSort (ds : List D) : Bool := ds.all isI || ds.all isS || (match ds with
  | d :: _ => (match shOf d with
    | some (b :: sh) => ds.all fun e => shOf e == some (b :: sh)
    | _ => false)
  | [] => true)
def sleD (a b : D) : Bool := !ltK (kk b) (kk a)
def sortD (ds : List D) : Option (List D) := if okSort ds = true then some (ds.mergeSort sleD) else none
/-! ### the rule -/
def dsorted (d : Den O) : Den Rv := dbind d fun o => dlift (((lsqV o).bind sortD).map fun ds => Rv.new (.lst (ds.map O.im)))
section
variable {X : Cx} {W : WX} {a : Expr} {x : Str} {p pos : Pos}
end
end DL

/-! DMH: written constants, defaults, isinstance of own classes. -/
namespace DL
open PySem PySem.Spec PyProof.Rows L2 Evl
/-! ### what the written part holds -/
def WR (K : PySem.W.Frag) (d : D) (u : Value) : Prop := ∃ v, RelV v u ∧ ∀ (k : KB) (F : Hp), k.K = K → Rep k F d v
def WRs (K : PySem.W.Frag) (ds : List D) (us : List Value) : Prop := ∃ vs, Vals vs us ∧ ∀ (k : KB) (F : Hp), k.K = K → Reps k F ds vs
section
variable {K : PySem.W.Frag}
theorem WR.int {i : Int} {t : Tok} : WR K (.int i) (.int i t) := ⟨.int i, ⟨t, rfl⟩, fun _ _ _ => rfl⟩
theorem WR.str {i : Str} {t : Tok} : WR K (.str i) (.str i t) := ⟨.str i, ⟨t, rfl⟩, fun _ _ _ => rfl⟩
theorem WR.non : WR K .non .none := ⟨.non, rfl, fun _ _ _ => rfl⟩
theorem WR.bl {b : Bool} : WR K (.bl b) (.bool b) := ⟨.bl b, rfl, fun _ _ _ => rfl⟩
theorem WR.adr {C : Addr} : WR K (.adr C) (.ref C) := ⟨.ref C, rfl, fun _ _ _ => rfl⟩
theorem WRs.nil : WRs K [] [] := ⟨[], .nil, fun _ _ _ => rfl⟩
theorem WRs.cons {d : D} {ds : List D} {u : Value} {us : List Value} (h : WR K d u) (r : WRs K ds us) : WRs K (d :: ds) (u :: us) := by
  obtain ⟨v, h1, h2⟩ := h
  obtain ⟨vs, r1, r2⟩ := r
  exact ⟨v :: vs, .cons h1 r1, fun k F e => ⟨v, vs, rfl, h2 k F e, r2 k F e⟩⟩
theorem WR.tup {T : Addr} {od : Option Addr} {us : List Value} {n : Nat} {sl : Array (Option Value)} {ds : List D} (l : K.lookup T = some ⟨.type "tuple", od, .seq us.toArray n, sl⟩) (r : WRs K ds us) (hz : us.length ≤ sizeLine := by decide +kernel) : WR K (.tup ds) (.ref T) := by
  obtain ⟨vs, r1, r2⟩ := r
  refine ⟨.ref T, rfl, fun k F e => ⟨T, vs, rfl, .inr ⟨_, us.toArray, n, by rw [e]; exact l, rfl, rfl, by simpa using hz, by simpa using r1⟩, r2 k F e⟩⟩
theorem reps_drop {k : KB} {F : Hp} : ∀ (j : Nat) {ds : List D} {vs : List V}, Reps k F ds vs → Reps k F (ds.drop j) (vs.drop j)
  | 0, _, _, h => h
  | j + 1, [], vs, h => by rw [show vs = [] from h]; exact rfl
  | j + 1, d :: ds, vs, h => by
    obtain ⟨x, r, e, e1, e2⟩ := h
    subst e
    exact reps_drop j e2
/-- a def's defaults: the ones behind the first j -/
def DB (K : PySem.W.Frag) (fd : FuncData) (ps : List Str) (dd : List D) : Prop := ∃ (ds : List Value) (dvs : List V), Binds K fd ps ds ∧ Vals dvs ds ∧ (∀ k : KB, k.K = K → Dfl k dd dvs) ∧ ds.length = dd.length
theorem dbinds {x qual : Str} {st : Stmt} {ps : List Str} {f T : Addr} {od odT an : Option Addr} {oc oT kV doc pm cdv ct : Value} {sl slT : Array (Option Value)} {us : List Value} {nT : Nat} {dd : List D} (P : Program) (w : World) (n j : Nat)
    (l : K.lookup f = some ⟨oc, od, .func (PySem.W.fnOf x qual (defArgs st) (defBody st) (defScope st) (.ref T) kV doc pm an cdv ct), sl⟩) (lT : K.lookup T = some ⟨oT, odT, .seq us.toArray nT, slT⟩) (W : WRs K dd us)
    (c : PySem.W.codeIn K cdv qual = true) (k : PySem.W.keepIn K (.ref f) = true) (hd : dd ≠ []) (hn : n + (dd.length - j) = ps.length)
    (h : ∀ (T : Addr) (kV doc pm : Value) (an : Option Addr) (cdv ct : Value) (us its : List Value), us.length = n → its.length = dd.length →
      ∃ k, bindArgs (PySem.W.fnOf x qual (defArgs st) (defBody st) (defScope st) (.ref T) kV doc pm an cdv ct) ⟨us, []⟩ = seqItems? (.ref T) >>= k ∧ k (some its.toArray) = pure (ps.zip (us ++ its.drop j))) :
    DB K (PySem.W.fnOf x qual (defArgs st) (defBody st) (defScope st) (.ref T) kV doc pm an cdv ct) ps (dd.drop j) := by
  obtain ⟨vs, r1, r2⟩ := W
  have hlen : vs.length = dd.length := ((r2 ⟨K, P, w, fun _ => none⟩ (fun _ => none) rfl).length).symm
  have hv : vs ≠ [] := fun e => hd (List.length_eq_zero_iff.mp (by rw [← hlen, e]; rfl))
  obtain ⟨ds, h1, h2⟩ := FunD.binds1 (K := K) (x := x) (qual := qual) (params := defArgs st) (body := defBody st) (scope := defScope st) (dvs := vs) (kws := []) (f := f) (ps := ps)
    ⟨⟨oc, od, .ref T, kV, doc, pm, an, cdv, ct, sl, rfl, l, c, .inr ⟨hv, T, _, us, nT, rfl, lT, rfl, r1⟩, .inl rfl⟩, k⟩ n j hv (by rw [hlen]; exact hn) (fun T kV doc pm an cdv ct us its e1 e2 => h T kV doc pm an cdv ct us its e1 (by rw [e2, hlen]))
  refine ⟨ds, vs.drop j, h2, h1, fun k e F => ?_, by rw [← h1.length, List.length_drop, List.length_drop, hlen]⟩
  exact reps_drop _ (r2 k F e)
theorem db_full {fd : FuncData} {ps : List Str} (b : DB K fd ps []) : Binds K fd ps [] := by
  obtain ⟨ds, dvs, h, _, _, hl⟩ := b
  have e : ds = [] := List.length_eq_zero_iff.mp hl
  rw [e] at h
  exact h
theorem db0 {fd : FuncData} {ps : List Str} (b : Binds K fd ps []) : DB K fd ps [] := ⟨[], [], b, .nil, fun _ _ _ => rfl, rfl⟩
end
section
variable {X : Cx} {W : WX} {pos p apos : Pos} {x m : Str} {a : Expr} {es : List Expr}
structure IsF (K : PySem.W.Frag) (C : Addr) : Prop where
  cls : Cls K C
  cc : PySem.W.findIn K (.ref C) "__class__" = some (some (.builtin "object.__class__"))
  cg : PySem.W.specialIn K (.builtin "object.__class__") "__get__" = some (some (.builtin "getset_descriptor.__get__"))
  ct : PySem.W.takesIn K (.builtin "object.__class__") = some true
  mr : PySem.W.mroIn K C (.type "object") = some true
  own : PySem.W.kitOne K (.ref C) (.ref C) = some true
  tup : PySem.W.kitOne K (.type "tuple") (.ref C) = some false
end
end DL

/-! DMI: data that compares as it is written. -/
namespace DL
open PySem PySem.Spec PyProof.Rows L2 Evl
mutual
def plP : PyData → Bool
  | .none => true
  | .bool _ => false
  | .int _ => true
  | .str _ => true
  | .list xs => plPs xs
  | .tuple xs => plPs xs
  | .dict _ => false
def plPs : List PyData → Bool
  | [] => true
  | x :: xs => plP x && plPs xs
end
mutual
theorem eqv_pl : ∀ p q : PyData, plP p = true → plP q = true → (PyData.eqv p q = true ↔ p = q)
  | .none, .none, _, _ => by simp [PyData.eqv]
  | .none, .int _, _, _ => by simp [PyData.eqv]
  | .none, .str _, _, _ => by simp [PyData.eqv]
  | .none, .list _, _, _ => by simp [PyData.eqv]
  | .none, .tuple _, _, _ => by simp [PyData.eqv]
  | .int _, .none, _, _ => by simp [PyData.eqv]
  | .int i, .int j, _, _ => by simp [PyData.eqv]
  | .int _, .str _, _, _ => by simp [PyData.eqv]
  | .int _, .list _, _, _ => by simp [PyData.eqv]
  | .int _, .tuple _, _, _ => by simp [PyData.eqv]
  | .str _, .none, _, _ => by simp [PyData.eqv]
  | .str _, .int _, _, _ => by simp [PyData.eqv]
  | .str x, .str y, _, _ => by simp [PyData.eqv]
  | .str _, .list _, _, _ => by simp [PyData.eqv]
  | .str _, .tuple _, _, _ => by simp [PyData.eqv]
  | .list _, .none, _, _ => by simp [PyData.eqv]
  | .list _, .int _, _, _ => by simp [PyData.eqv]
  | .list _, .str _, _, _ => by simp [PyData.eqv]
  | .list xs, .list ys, h, k => by
    rw [PyData.eqv, eqvs_pl xs ys h k]
    exact ⟨fun e => by rw [e], fun e => by injection e⟩
  | .list _, .tuple _, _, _ => by simp [PyData.eqv]
  | .tuple _, .none, _, _ => by simp [PyData.eqv]
  | .tuple _, .int _, _, _ => by simp [PyData.eqv]
  | .tuple _, .str _, _, _ => by simp [PyData.eqv]
  | .tuple _, .list _, _, _ => by simp [PyData.eqv]
  | .tuple xs, .tuple ys, h, k => by
    rw [PyData.eqv, eqvs_pl xs ys h k]
    exact ⟨fun e => by rw [e], fun e => by injection e⟩
  | .bool _, _, h, _ => by cases h
  | .dict _, _, h, _ => by cases h
  | _, .bool _, _, h => by cases h
  | _, .dict _, _, h => by cases h
theorem eqvs_pl : ∀ ps qs : List PyData, plPs ps = true → plPs qs = true → (PyData.eqvAll ps qs = true ↔ ps = qs)
  | [], [], _, _ => by simp [PyData.eqvAll]
  | [], _ :: _, _, _ => by simp [PyData.eqvAll]
  | _ :: _, [], _, _ => by simp [PyData.eqvAll]
  | x :: xs, y :: ys, h, k => by
    have h' := Bool.and_eq_true_iff.mp (show (plP x && plPs xs) = true from h)
    have k' := Bool.and_eq_true_iff.mp (show (plP y && plPs ys) = true from k)
    rw [PyData.eqvAll, Bool.and_eq_true, eqv_pl x y h'.1 k'.1, eqvs_pl xs ys h'.2 k'.2]
    exact ⟨fun e => by rw [e.1, e.2], fun e => by injection e with e1 e2; exact ⟨e1, e2⟩⟩
end
-- plain data, as deep as n
mutual
def nice : Nat → D → Bool
  | _, .non => true
  | _, .int _ => true
  | _, .str x => PyData.strOk x
  | n + 1, .tup ds => nices n ds
  | n + 1, .lst ds => nices n ds
  | _, _ => false
def nices : Nat → List D → Bool
  | _, [] => true
  | n, d :: ds => nice n d && nices n ds
end
mutual
theorem nice_py : ∀ (n : Nat) (d : D), nice n d = true → ∃ p, d.py = some p ∧ plP p = true ∧ p.canLay0 = true ∧ p.depth ≤ n
  | n, .non, _ => ⟨_, rfl, rfl, rfl, Nat.zero_le _⟩
  | n, .int i, _ => ⟨_, rfl, rfl, rfl, Nat.zero_le _⟩
  | n, .str x, h => ⟨_, rfl, rfl, by simpa [PyData.canLay0, nice] using h, Nat.zero_le _⟩
  | n + 1, .tup ds, h => by
    obtain ⟨ps, h1, h2, h3, h4⟩ := nices_py n ds (by simpa [nice] using h)
    refine ⟨.tuple ps, by simp [D.py, h1], by simpa [plP] using h2, by simpa [PyData.canLay0] using h3, ?_⟩
    simp only [PyData.depth]
    omega
  | n + 1, .lst ds, h => by
    obtain ⟨ps, h1, h2, h3, h4⟩ := nices_py n ds (by simpa [nice] using h)
    refine ⟨.list ps, by simp [D.py, h1], by simpa [plP] using h2, by simpa [PyData.canLay0] using h3, ?_⟩
    simp only [PyData.depth]
    omega
  | 0, .tup _, h => by simp [nice] at h
  | 0, .lst _, h => by simp [nice] at h
  | _, .any, h => by simp [nice] at h
  | _, .bl _, h => by simp [nice] at h
  | _, .ty _, h => by simp [nice] at h
  | _, .adr _, h => by simp [nice] at h
  | _, .exc _ _ _ _ _, h => by simp [nice] at h
  | _, .wtp _, h => by simp [nice] at h
  | _, .scr _, h => by simp [nice] at h
  | _, .dct _ _, h => by simp [nice] at h
  | _, .ins _ _ _, h => by simp [nice] at h
theorem nices_py : ∀ (n : Nat) (ds : List D), nices n ds = true → ∃ ps, D.pys ds = some ps ∧ plPs ps = true ∧ PyData.canLayAll0 ps = true ∧ PyData.depthAll ps ≤ n
  | n, [], _ => ⟨[], by simp [D.pys], rfl, by simp [PyData.canLayAll0], by simp [PyData.depthAll]⟩
  | n, d :: ds, h => by
    have h' := Bool.and_eq_true_iff.mp (show (nice n d && nices n ds) = true by simpa [nices] using h)
    obtain ⟨p, h1, h2, h3, h4⟩ := nice_py n d h'.1
    obtain ⟨ps, k1, k2, k3, k4⟩ := nices_py n ds h'.2
    refine ⟨p :: ps, by simp [D.pys, h1, k1], by simp [plPs, h2, k2], by simp [PyData.canLayAll0, h3, k3], ?_⟩
    simp only [PyData.depthAll]
    omega
end
mutual
theorem py_inj : ∀ (n m : Nat) (d e : D) (p : PyData), nice n d = true → nice m e = true → d.py = some p → e.py = some p → d = e
  | n, m, .non, e, p, h, k, h1, k1 => by
    have e0 : PyData.none = p := Option.some.inj (by simpa [D.py] using h1)
    subst e0
    cases e with
    | non => rfl
    | tup ds => simp [D.py] at k1
    | lst ds => simp [D.py] at k1
    | int i => simp [D.py] at k1
    | str i => simp [D.py] at k1
    | _ => simp [nice] at k
  | n, m, .int i, e, p, h, k, h1, k1 => by
    have e0 : PyData.int i = p := Option.some.inj (by simpa [D.py] using h1)
    subst e0
    cases e with
    | non => simp [D.py] at k1
    | tup ds => simp [D.py] at k1
    | lst ds => simp [D.py] at k1
    | int i => simp [D.py] at k1; rw [k1]
    | str i => simp [D.py] at k1
    | _ => simp [nice] at k
  | n, m, .str i, e, p, h, k, h1, k1 => by
    have e0 : PyData.str i = p := Option.some.inj (by simpa [D.py] using h1)
    subst e0
    cases e with
    | non => simp [D.py] at k1
    | tup ds => simp [D.py] at k1
    | lst ds => simp [D.py] at k1
    | int i => simp [D.py] at k1
    | str i => simp [D.py] at k1; rw [k1]
    | _ => simp [nice] at k
  | n + 1, m, .tup ds, e, p, h, k, h1, k1 => by
    obtain ⟨ps, hp, rfl⟩ := Option.map_eq_some_iff.mp (show (D.pys ds).map PyData.tuple = some p by simpa [D.py] using h1)
    cases e with
    | tup es =>
      obtain ⟨qs, hq, e2⟩ := Option.map_eq_some_iff.mp (show (D.pys es).map PyData.tuple = some (.tuple ps) by simpa [D.py] using k1)
      injection e2 with e2
      subst e2
      cases m with
      | zero => simp [nice] at k
      | succ m => rw [pys_inj n m ds es qs (by simpa [nice] using h) (by simpa [nice] using k) hp hq]
    | non => simp [D.py] at k1
    | lst es => simp [D.py] at k1
    | int i => simp [D.py] at k1
    | str i => simp [D.py] at k1
    | _ => simp [nice] at k
  | n + 1, m, .lst ds, e, p, h, k, h1, k1 => by
    obtain ⟨ps, hp, rfl⟩ := Option.map_eq_some_iff.mp (show (D.pys ds).map PyData.list = some p by simpa [D.py] using h1)
    cases e with
    | lst es =>
      obtain ⟨qs, hq, e2⟩ := Option.map_eq_some_iff.mp (show (D.pys es).map PyData.list = some (.list ps) by simpa [D.py] using k1)
      injection e2 with e2
      subst e2
      cases m with
      | zero => simp [nice] at k
      | succ m => rw [pys_inj n m ds es qs (by simpa [nice] using h) (by simpa [nice] using k) hp hq]
    | non => simp [D.py] at k1
    | tup es => simp [D.py] at k1
    | int i => simp [D.py] at k1
    | str i => simp [D.py] at k1
    | _ => simp [nice] at k
  | 0, _, .tup _, _, _, h, _, _, _ => by simp [nice] at h
  | 0, _, .lst _, _, _, h, _, _, _ => by simp [nice] at h
  | _, _, .any, _, _, h, _, _, _ => by simp [nice] at h
  | _, _, .bl _, _, _, h, _, _, _ => by simp [nice] at h
  | _, _, .ty _, _, _, h, _, _, _ => by simp [nice] at h
  | _, _, .adr _, _, _, h, _, _, _ => by simp [nice] at h
  | _, _, .exc _ _ _ _ _, _, _, h, _, _, _ => by simp [nice] at h
  | _, _, .wtp _, _, _, h, _, _, _ => by simp [nice] at h
  | _, _, .scr _, _, _, h, _, _, _ => by simp [nice] at h
  | _, _, .dct _ _, _, _, h, _, _, _ => by simp [nice] at h
  | _, _, .ins _ _ _, _, _, h, _, _, _ => by simp [nice] at h
theorem pys_inj : ∀ (n m : Nat) (ds es : List D) (ps : List PyData), nices n ds = true → nices m es = true → D.pys ds = some ps → D.pys es = some ps → ds = es
  | n, m, [], [], ps, _, _, _, _ => rfl
  | n, m, [], e :: es, ps, h, k, h1, k1 => by
    have e0 : [] = ps := Option.some.inj (by simpa [D.pys] using h1)
    subst e0
    unfold D.pys at k1
    cases h2 : e.py with
    | none => rw [h2] at k1; cases k1
    | some p =>
      cases h3 : D.pys es with
      | none => rw [h2, h3] at k1; cases k1
      | some q => rw [h2, h3] at k1; cases k1
  | n, m, d :: ds, [], ps, h, k, h1, k1 => by
    have e0 : [] = ps := Option.some.inj (by simpa [D.pys] using k1)
    subst e0
    unfold D.pys at h1
    cases h2 : d.py with
    | none => rw [h2] at h1; cases h1
    | some p =>
      cases h3 : D.pys ds with
      | none => rw [h2, h3] at h1; cases h1
      | some q => rw [h2, h3] at h1; cases h1
  | n, m, d :: ds, e :: es, ps, h, k, h1, k1 => by
    have h' := Bool.and_eq_true_iff.mp (show (nice n d && nices n ds) = true by simpa [nices] using h)
    have k' := Bool.and_eq_true_iff.mp (show (nice m e && nices m es) = true by simpa [nices] using k)
    unfold D.pys at h1 k1
    cases a1 : d.py with
    | none => rw [a1] at h1; cases h1
    | some p =>
      cases a2 : D.pys ds with
      | none => rw [a1, a2] at h1; cases h1
      | some q =>
        cases b1 : e.py with
        | none => rw [b1] at k1; cases k1
        | some p' =>
          cases b2 : D.pys es with
          | none => rw [b1, b2] at k1; cases k1
          | some q' =>
            rw [a1, a2] at h1
            rw [b1, b2] at k1
            have e1 : p :: q = ps := Option.some.inj h1
            have e2 : p' :: q' = ps := Option.some.inj k1
            subst e1
            injection e2 with e2 e3
            subst e2
            subst e3
            rw [py_inj n m d e p' h'.1 k'.1 a1 b1, pys_inj n m ds es q' h'.2 k'.2 a2 b2]
end
theorem shaped_nice {n : Nat} {p : PyData} (h : p.canLay0 = true) (hd : p.depth ≤ n) (hn : n ≤ 64) : SeqAt.shaped p = true := by
  unfold SeqAt.shaped
  rw [h, decide_eq_true (Nat.le_trans hd hn)]
  rfl
/-- two plain things compared -/
theorem eqD_nice {n m : Nat} {x y : D} (hx : nice n x = true) (hy : nice m y = true) (hn : n ≤ 64 := by decide) (hm : m ≤ 64 := by decide) : ∃ b, eqD x y = some b ∧ (b = true ↔ x = y) := by
  obtain ⟨p, h1, h2, h3, h4⟩ := nice_py n x hx
  obtain ⟨q, k1, k2, k3, k4⟩ := nice_py m y hy
  refine ⟨PyData.eqv p q, ?_, ?_⟩
  · unfold eqD
    rw [h1, k1]
    dsimp only
    rw [shaped_nice h3 h4 hn, shaped_nice k3 k4 hm]
    rfl
  · rw [eqv_pl p q h2 k2]
    exact ⟨fun e => by subst e; exact py_inj n m x y p hx hy h1 k1, fun e => by subst e; rw [h1] at k1; exact Option.some.inj k1⟩
end DL

/-! DMJ: rules that step through dicts, objects, places. -/
namespace DL
open PySem PySem.Spec PyProof.Rows L2 Evl
section
variable {α β : Type} {q : Bool} {e : Env} {P : α → Env → Prop} {PR : Rv → Env → Prop} {PD : D → Env → Prop} {PO : O → Env → Prop} {PB : Bool → Env → Prop}
theorem w_dixX {d : Den O} {di : Den D} (p : EW q d e fun o e1 => EW true di e1 fun i e2 => OP (elemOX o i) fun x => PO x e2) : EW q (dixX d di) e PO := by
  unfold dixX
  simp only [ew_bind, ew_lift, ew_dq]
  exact p
theorem w_listX {d : Den O} (p : EW q d e fun o e1 => OP (keysOX o) fun ds => PR (.new (.lst (ds.map O.im))) e1) : EW q (dlistX d) e PR := by
  unfold dlistX
  rw [ew_bind]
  refine ew_imp p fun o e1 h => ew_lift.mpr ?_
  obtain ⟨z, hz, p⟩ := h
  exact ⟨_, by rw [hz]; rfl, p⟩
theorem w_sorted {d : Den O} (p : EW q d e fun o e1 => OP (lsqV o) fun ds => OP (sortD ds) fun es => PR (.new (.lst (es.map O.im))) e1) : EW q (dsorted d) e PR := by
  unfold dsorted
  rw [ew_bind]
  refine ew_imp p fun o e1 h => ew_lift.mpr ?_
  obtain ⟨z, hz, y, hy, p⟩ := h
  exact ⟨_, by rw [hz]; show ((sortD z).map _) = _; rw [hy]; rfl, p⟩
theorem w_un {g : D → Option D} {d : Den D} (p : EW q d e fun x e1 => OP (g x) fun z => PD z e1) : EW q (dun g d) e PD := by
  unfold dun
  simp only [ew_bind, ew_lift]
  exact p
theorem w_sqC {C : Addr} {fld : Str} {d : Den D} {PL : List D → Env → Prop} (p : EW q d e fun x e1 => OP (match insSeq C fld x with
  | some ds => some ds
  | none => seqD x) fun ds => PL ds e1) : EW q (sqC C fld d) e PL := by
  unfold sqC
  simp only [ew_bind, ew_lift]
  exact p
theorem op_fldI {C : Addr} {f : Str} {ns : List Str} {ds : List D} {d : D} {P : O → Prop} (h : (ns.zip ds).lookup f = some d) (p : P (.im d)) : OP (fldO [C] f (.im (.ins C ns ds))) P := ⟨_, by
  show (if C ∈ [C] then ((ns.zip ds).lookup f).map O.im else none) = _
  rw [if_pos (List.mem_singleton.mpr rfl), h]
  rfl, p⟩
end
section
variable {q : Bool} {e : Env} {N : Env → Prop} {R : Rv → Env → Prop} {B C : Env → Prop}
/-- for over a list, a tuple, an instance -/
def forCP (C : Addr) (fld : Str) (r : Rv) (bind : D → Env → Option Env) (body : SDen) (e : Env) (A : Aft) : Prop := match r with
  | .im d => OP (match insSeq C fld d with
    | some ds => some ds
    | none => seqD d) fun ds => SW (sloop bind body ds) e A
  | .new o => OP (seqD o.flat) fun ds => SW (sloop bind body ds) e A
  | .bor i _ => match lk e i with
    | some (_, o) => OP (seqO o) fun ds => SW (slend i (sloop bind body ds)) e A
    | none => False
theorem w_forC {D : Addr} {fld : Str} {it : Den Rv} {bind : DL.D → Env → Option Env} {body : SDen} (p : EW false it e fun r e' => forCP D fld r bind body e' ⟨N, R, B, C⟩) : SW (sforC D fld it bind body) e ⟨N, R, B, C⟩ := by
  unfold sforC
  rw [sw_bind]
  refine ew_imp p fun r e' h => ?_
  unfold forCP at h
  unfold SW
  cases r with
  | im d =>
    obtain ⟨z, hz, p⟩ := h
    dsimp only
    cases h2 : insSeq D fld d with
    | none => rw [h2] at hz; dsimp only at hz ⊢; rw [hz]; exact p
    | some ds => rw [h2] at hz; cases hz; exact p
  | new d => obtain ⟨z, hz, p⟩ := h; dsimp only; rw [hz]; exact p
  | bor i x =>
    dsimp only at h ⊢
    cases h2 : lk e' i with
    | none => rw [h2] at h; exact False.elim h
    | some y =>
      obtain ⟨b, y⟩ := y
      rw [h2] at h
      obtain ⟨z, hz, p⟩ := h
      rw [lk_some h2]
      dsimp only
      rw [hz]
      exact p
end
section
variable {q : Bool} {e : Env}
/-- a comprehension whose items are pictures E b of b's that R tells -/
theorem w_compE {γ δ : Type} {src : Den (List D)} {bind : D → Env → Option Env} {elt : Den Rv} {vs : List Nat} {P : Rv → Env → Prop} (l : List γ) (g : γ → D) (E : δ → O) (Rl : γ → δ → Prop)
    (p : EW q src e fun ds e' => ds = l.map g ∧ (wiped e' vs = true ∧ restE e' (wipeE e' vs) vs = e') ∧ l.length ≤ sizeLine ∧ (∀ a ∈ l, OP (bind (g a) (wipeE e' vs)) fun e1 => EW q elt e1 fun rv e3 => rvP rv e3 fun o e4 => (∃ b, o = E b ∧ Rl a b) ∧ wipeE e4 vs = wipeE e' vs) ∧
      ∀ bs : List δ, bs.length = l.length → (∀ (i : Nat) a b, l[i]? = some a → bs[i]? = some b → Rl a b) → P (.new (.lst (bs.map E))) e') : EW q (dcomp src bind (dpure true) elt vs) e P := by
  obtain ⟨m, e', ds, k1, k2, rfl, k3, k4, k5, k6⟩ := p
  unfold dcomp
  rw [ew_bind]
  refine ⟨m, e', l.map g, k1, k2, ?_⟩
  have key : ∀ {l : List γ} {acc : List O}, acc.length + l.length ≤ sizeLine → (∀ a ∈ l, OP (bind (g a) (wipeE e' vs)) fun e1 => EW q elt e1 fun rv e3 => rvP rv e3 fun o e4 => (∃ b, o = E b ∧ Rl a b) ∧ wipeE e4 vs = wipeE e' vs) →
      ∃ (bs : List δ) (m : Bool), bs.length = l.length ∧ (∀ (i : Nat) a b, l[i]? = some a → bs[i]? = some b → Rl a b) ∧ cloop bind (dpure true) elt vs (l.map g) acc (wipeE e' vs) = some (.ok m (wipeE e' vs) (acc ++ bs.map E)) ∧ (q = true → m = false) := by
    intro l
    induction l with
    | nil => intro acc _ _; exact ⟨[], false, rfl, fun i a b h => (by simp at h), by rw [List.map_nil, List.map_nil, List.append_nil]; rfl, fun _ => rfl⟩
    | cons a l ih =>
      intro acc hl hh
      rw [List.length_cons] at hl
      obtain ⟨e1, h1, m2, e3, rv, h4, hm2, h5⟩ := hh a List.mem_cons_self
      obtain ⟨m3, e4, o, h6, _, ⟨b, hf, hR⟩, he⟩ := w_rvO (q := false) h5
      obtain ⟨bs, m, hbl, hbR, hc, hm⟩ := ih (acc := acc ++ [o]) (by rw [List.length_append]; show acc.length + 1 + l.length ≤ sizeLine; omega) fun x hx => hh x (List.mem_cons_of_mem _ hx)
      refine ⟨b :: bs, false || m2 || m, by rw [List.length_cons, List.length_cons, hbl], fun i x y hx hy => ?_, ?_, fun z => by rw [hm2 z, hm z]; rfl⟩
      · cases i with
        | zero =>
          have e1 : a = x := by simpa using hx
          have e2 : b = y := by simpa using hy
          rw [← e1, ← e2]
          exact hR
        | succ i => exact hbR i x y (by simpa using hx) (by simpa using hy)
      · rw [List.map_cons]
        unfold cloop
        rw [h1]
        dsimp only [dpure]
        rw [h4]
        dsimp only
        rw [h6]
        dsimp only
        rw [if_pos (by omega), he, hc, hf, List.append_assoc]
        rfl
  obtain ⟨bs, m, hbl, hbR, hc, hm⟩ := key (acc := []) (by simpa using k4) k5
  refine ⟨m, e', _, ?_, hm, k6 bs hbl hbR⟩
  dsimp only
  rw [if_pos k3.1, hc]
  dsimp only
  rw [k3.2]
  rfl
/-- .. over a range -/
theorem rangeD_map (n : Nat) : rangeD 0 n = (List.range n).map fun (i : Nat) => D.int (i : Int) := by
  unfold rangeD
  congr 1
  funext i
  rw [Int.zero_add]
end
end DL

/-! DMK: x != y of own classes that have __eq__ alone. -/
namespace DL
open PySem PySem.Spec PyProof.Rows L2 Evl
section
variable {prog : Program} {w : World} {A : Around} {E : Value → Shared → Prop} {s : Shared} {K : PySem.W.Frag} {x C : Addr} {ox : Obj} {od : Option Obj} {name : Str}
end
section
variable {X : Cx} {C f : Addr} {k : Nat} {fn : FDen}
end
section
variable {X : Cx} {W : WX} {a b : Expr} {pos : Pos} {C f : Addr} {k : Nat} {fn : FDen} {da db : Den D}
end
end DL

/-! DML: bool(x); C.m(..) of a static method. -/
namespace DL
open PySem PySem.Spec PyProof.Rows L2 Evl
section
variable {prog : Program} {w : World} {A : Around} {E : Value → Shared → Prop} {s : Shared}
end
section
variable {X : Cx} {C f : Addr} {k : Nat} {fn : FDen}
end
section
variable {X : Cx} {W : WX} {a b : Expr} {pos p : Pos} {C f : Addr} {k : Nat} {fn : FDen} {da db : Den D} {x : Str}
end
/-! ### C.m(..), m a static method -/
structure SMet (K : PySem.W.Frag) (C : Addr) (m : Str) (p f : Addr) : Prop where
  rd : PySem.W.readsIn K C (.type "type") = true
  ga : PySem.W.specialIn K (.ref C) "__getattribute__" = some (some (.builtin "type.__getattribute__"))
  at_ : PySem.W.findCls K (.ref C) (.type "type") m = some (.get (.builtin "staticmethod.__get__") (.ref p) .none (.ref C))
  rc : ∃ rest, PySem.W.recIn K p "staticmethod" = some (.ref f :: rest)
  kp : PySem.W.keepIn K (.ref f) = true
section
variable {X : Cx} {CX : CXT} {k : Nat} {f C pp : Addr} {fd : FuncData} {ps : List Str} {sp : Sp} {E : L2.St → XK} {x m : Str} {p pos apos : Pos} {e : Expr} {es : List Expr} {t : TA}
end
section
variable {X : Cx} {W : WX} {a : Expr} {es : List Expr} {pos p apos : Pos} {x m : Str} {k : Nat} {f C pp : Addr} {fd : FuncData} {ps : List Str} {fn : FDen}
end
end DL

/-! DMM: list(o) of an own class whose __iter__ hands on a field's iterator; x.extend(y). -/
namespace DL
open PySem PySem.Spec PyProof.Rows L2 Evl
section
variable {X : Cx} {C f : Addr} {fld : Str}
/-- nothing tells its length -/
structure NoLen (K : PySem.W.Frag) (C : Addr) : Prop where
  len : PySem.W.findIn K (.ref C) "__len__" = some none
  hint : PySem.W.findIn K (.ref C) "__length_hint__" = some none
end
/-! ### what is read -/
section
variable {X : Cx} {W : WX} {a ex : Expr} {pos p : Pos} {C f : Addr} {fld : Str} {da : Den D} {x : Str}
end
/-! ### x.extend(y), y seen -/
section
variable {X : Cx} {W : WX} {a : Expr} {pos p : Pos}
end
section
variable {e : Env} {N : Env → Prop} {R : Rv → Env → Prop} {B C : Env → Prop}
end
/-! ### comparisons of own instances as tests -/
section
variable {X : Cx} {W : WX} {a b : Expr} {pos : Pos} {C f : Addr} {k : Nat} {fn : FDen} {da db : Den D}
end
end DL

/-! DMN: int(a text). -/
namespace DL
open PySem PySem.Spec PyProof.Rows L2 Evl
def intS : List D → Option D
  | [.str a] => if a.length ≤ 640 then (PySem.intText? a).map D.int else none
  | _ => none
theorem ok_intS {K : KB} : CallOkV K (fun xs H Q => ∃ a n, xs = [.str a] ∧ PySem.intText? a = some n ∧ a.length ≤ 640 ∧ Q (.int n) H) intS := by
  intro H xs ds d h hg
  unfold intS at hg
  split at hg
  · split at hg
    · rename_i a hz
      obtain ⟨n, hn, rfl⟩ := Option.map_eq_some_iff.mp hg
      obtain ⟨v, rfl, h1⟩ := reps1 h
      rw [show v = V.str _ from h1]
      exact ⟨.int n, fun _ => rfl, fun Q q => ⟨_, n, rfl, hn, hz, q⟩⟩
    · cases hg
  · cases hg
/-! ### one sign times a number -/
theorem rep_sign (c : Nat) : ∀ (n : Nat) (acc : List Nat), (List.replicate n (#[c] : Array Nat)).foldl (· ++ ·) acc.toArray = (acc ++ List.replicate n c).toArray
  | 0, acc => by simp
  | n + 1, acc => by
    rw [List.replicate_succ, List.foldl_cons, show acc.toArray ++ #[c] = (acc ++ [c]).toArray by simp, rep_sign c n, List.append_assoc, List.replicate_succ]
    rfl
def rMulS : R2 := fun x y H Q => ∃ (c : Nat) (n : Int), x = .str ⟨#[c]⟩ ∧ y = .int n ∧ 0 ≤ n ∧ n ≤ 1000000 ∧ Q (.str ⟨(List.replicate n.toNat c).toArray⟩) H
theorem op_mulS {X : Cx} : OpR X (binaryOp .Mult) rMulS := by
  intro pins s σ H x y v u Q I rx ry h
  obtain ⟨c, n, rfl, rfl, h0, h1, q⟩ := h
  obtain ⟨t, rfl⟩ := rx
  obtain ⟨t', rfl⟩ := ry
  have e1 : (⟨#[c]⟩ : Str).length = 1 := rfl
  refine PySem.P.mul_str ?_ (fun h2 _ => ?_) (fun h2 _ => ?_) ?_
  · rw [decide_eq_false (by omega), decide_eq_false (by omega)]
    rfl
  · rw [e1]
    have : (1 : Int) ≤ (2 ^ 63 - 1) / n := Int.le_ediv_of_mul_le (by omega) (by omega)
    omega
  · rw [e1, Nat.one_mul]
    have : n.toNat ≤ 1000000 := by omega
    have hs : sizeLine = 16777216 := sizeLine_eq
    show decide (n.toNat > sizeLine) = false
    exact decide_eq_false (by omega)
  · have fin : ∀ (tk : Nat) (u : Tok) (z : Str), z = ⟨(List.replicate n.toNat c).toArray⟩ → EP X pins σ Q (.str z u) { s with toks := tk } := fun tk u z e => ⟨.str z, H, I.tok _, ⟨u, rfl⟩, by rw [e]; exact q⟩
    by_cases hn : n < 1
    · rw [if_pos hn]
      have : n.toNat = 0 := by omega
      exact ⟨by decide, fin _ _ _ (by rw [this]; rfl)⟩
    · rw [if_neg hn]
      by_cases h2 : (n == 1 || (⟨#[c]⟩ : Str).length == 0) = true
      · rw [if_pos h2]
        have : n.toNat = 1 := by
          rw [e1] at h2
          simp at h2
          omega
        exact fin _ _ _ (by rw [this]; rfl)
      · rw [if_neg h2]
        have hz : (⟨(List.replicate n.toNat (#[c] : Array Nat)).foldl (· ++ ·) #[]⟩ : Str) = ⟨(List.replicate n.toNat c).toArray⟩ := by
          have := rep_sign c n.toNat []
          rw [List.nil_append] at this
          exact congrArg Str.mk this
        refine ⟨?_, fin _ _ _ hz⟩
        refine Nat.le_trans (m := n.toNat) ?_ (by have hs : sizeLine = 16777216 := sizeLine_eq; omega)
        have hz2 : (⟨(List.replicate n.toNat (⟨#[c]⟩ : Str).cps).foldl (· ++ ·) #[]⟩ : Str) = ⟨(List.replicate n.toNat c).toArray⟩ := hz
        rw [hz2]
        show ((List.replicate n.toNat c).toArray).size ≤ n.toNat
        simp
def mulS : D → D → Option D
  | .str z, .int n => if z.length = 1 ∧ 0 ≤ n ∧ n ≤ 1000000 then some (.str ⟨(List.replicate n.toNat (z.cps.getD 0 0)).toArray⟩) else none
  | _, _ => none
theorem ok_mulS {K : KB} : OpOk K rMulS mulS := by
  intro F H x y dx dy d fh h1 h2 hg Q k
  unfold mulS at hg
  split at hg
  · split at hg
    · rename_i z n hz
      cases hg
      obtain ⟨hz1, hz2, hz3⟩ := hz
      rw [show x = V.str _ from h1, show y = V.int _ from h2]
      have e : z = ⟨#[z.cps.getD 0 0]⟩ := by
        obtain ⟨a⟩ := z
        have ha : a.size = 1 := hz1
        congr 1
        refine Array.ext (by simp [ha]) fun i h1 h2 => ?_
        have : i = 0 := by simp at h2; omega
        subst this
        simp [ha]
      exact ⟨z.cps.getD 0 0, n, congrArg V.str e, rfl, hz2, hz3, ok_of_str fh k⟩
    · cases hg
  · cases hg
theorem di_mulS {X : Cx} {W : WX} {a b : Expr} {pos : Pos} {da db : Den D} (ha : DI X W a da) (hb : DI X W b db) : DI X W (.BinOp a .Mult b pos) (dbin da db mulS) := di_op op_mulS ok_mulS ha hb
end DL

/-! DMO: while, and comprehensions whose items change the slots. -/
namespace DL
open PySem PySem.Spec PyProof.Rows L2 Evl
/-- while: at most k turns are left -/
theorem sw_while {t : Den Bool} {b : SDen} {A : Aft} (Iv : Nat → Env → Prop) (hs : ∀ k e', Iv k e' → EW false t e' fun c e2 => BR c (∃ j, j < k ∧ SW b e2 ⟨Iv j, A.R, A.N, Iv j⟩) (A.N e2)) :
    ∀ (f k : Nat) (e : Env), k < f → Iv k e → SW (swhile t b f) e A
  | 0, k, e, hk, h => absurd hk (Nat.not_lt_zero _)
  | f + 1, k, e, hk, h => by
    unfold swhile
    rw [sw_bind]
    refine ew_imp (hs k e h) fun c e2 h2 => ?_
    cases c with
    | false => exact sw_next.mpr (h2.2 rfl)
    | true =>
      obtain ⟨j, hj, r, hr, p⟩ := h2.1 rfl
      have ih : ∀ e3, Iv j e3 → SW (swhile t b f) e3 A := fun e3 h3 => sw_while Iv hs f j e3 (by omega) h3
      show ∃ r, sturn (b e2) (swhile t b f) = some r ∧ _
      rw [hr]
      cases r with
      | nx m e3 =>
        obtain ⟨r2, h2, p2⟩ := ih e3 p
        show ∃ r, SRes.more m (swhile t b f e3) = some r ∧ _
        rw [h2]
        exact SP'.more p2
      | ct m e3 =>
        obtain ⟨r2, h2, p2⟩ := ih e3 p
        show ∃ r, SRes.more m (swhile t b f e3) = some r ∧ _
        rw [h2]
        exact SP'.more p2
      | bk m e3 => exact ⟨_, rfl, p⟩
      | rt m e3 x => exact ⟨_, rfl, p⟩
      | er m e3 x => exact False.elim p
section
variable {e : Env}
end
end DL

/-! DMP: own errors: made, raised, caught, asked. -/
namespace DL
open PySem PySem.Spec PyProof.Rows L2 Evl

/-! ### making and raising -/
/-- what an own error's __init__ leaves: its one field -/
def spKept (K : PySem.W.Frag) (f : Str) : Sp := fun vs H Q _ => ∃ (a C : Addr) (y : V), vs = [.ref a, y] ∧ OexC K C ∧ PySem.W.findIn K (.ref C) f = some none ∧ H a = some (exo a C none) ∧
  ∀ dx, H dx = none → dx ≠ a → Q .non (upd (upd H dx (exd dx [(f, y)])) a (exo a C (some dx)))
def tKept (K : PySem.W.Frag) (f msg : Str) : TS := tSeq (tDrop (tVeI K (tCons (tVar 0) (tCons (tC (.str msg)) tNil)))) (tOst K f (tVar 0) (tVar 1))
theorem ok_kept {P : Program} {w : World} {K : PySem.W.Frag} {mg : Str → Option Value} {base : Heap} {x qual fld msg : Str} {st : Stmt} {f : Addr} {fd : FuncData} {k : Nat} {ps : List Str} (hps : ps.length = 2) (Fn : Df K x qual st f fd) (S : FnScope ps ps (defScope st))
    (hb : ∀ (cdv : Value) (A : Around) (outer : List PySem.Env) (s : Shared) (H : Hp) (E : XK), Room k (A.deeper (envOfC qual (defScope st) s.heap.objs.size f cdv)) →
      PSs (cxOf (L2.CX P w) P w K mg base ps qual (defScope st) f cdv A outer s H E) (defBody st) (tKept K fld msg)) :
    FnOk P w K mg base (L2.CX P w) (k + 1) f fd ps (spKept K fld) := by
  obtain ⟨oc, od, dV, kV, doc, pm, an, cdv, ct, osl, rfl, lk, hcd⟩ := Fn.ex
  refine L2.fn_of lk hcd S (fun vs H Q E h => ?_) (fun A outer s H vs Q E hr h => ⟨tKept K fld msg, hb cdv A outer s H E hr, ?_⟩)
  · obtain ⟨a, C, y, e, _⟩ := h
    rw [e, hps]
    rfl
  · obtain ⟨a, C, y, e, T, hno, ha, q⟩ := h
    subst e
    have s0 : (L2.start ps [V.ref a, y])[0]? = some (some (.ref a)) := rfl
    have s1 : (L2.start ps [V.ref a, y])[1]? = some (some y) := rfl
    exact ⟨_, s0, a, C, [.str msg], rfl, by show 1 ≤ 1000; decide, T, ha, y, s1, _, s0, a, C, rfl, T, hno, .inl ⟨ha, q⟩⟩
/-- an own error's class, by the name that the module has for it -/
structure ExcK (K : PySem.W.Frag) (mg : Str → Option Value) (c : Str) (C fI : Addr) : Prop where
  gC : mg c = some (.ref C)
  T : OexC K C
  no : PySem.W.findIn K (.ref C) "what" = some none
  iC : PySem.W.findIn K (.ref C) "__init__" = some (some (.ref fI))
def xn (c : Str) (d : D) : Xn := ⟨c, [("what", d)]⟩
def sraise (c : Str) (d : Den D) : SDen := sbind d fun x e => some (.er false e (xn c x))
theorem ds_raise {X : Cx} {W : WX} {a : Expr} {p pos pos2 : Pos} {c : Str} {C fI : Addr} {fd : FuncData} {k : Nat} {ps : List Str} {den : Den D} (Z : ExcK X.K X.mg c C fI) (tI : PySem.W.typeIn X.K (.ref fI) = some (.type "function"))
    (F1 : FnOk X.prog X.w X.K X.mg X.base (L2.CX X.prog X.w) k fI fd ps (spKept X.K "what")) (hr : Room (k + 1) X.A) (hb : Binds X.K fd ps []) (hc : X.calm = true) (tk : Takes X W) (hg : Gl X c) (ha : DI X W a den)
    (hdb : (c == ("__debug__" : Str)) = false := by decide) (he : starEach (a :: []) X.env = (false, eval a X.env) :: starEach [] X.env := by rfl) (hpl : (backTo pos (starEach [] X.env)).any (·.1) = false := by rfl) :
    DS X W (.Raise (some (.Call (.Name c p) [a] [] pos)) none pos2) (sraise c den) := by
  have pas : Passes (L2.CX X.prog X.w) X (fun _ _ _ => False) := fun pins σ H s e s' I z => by
    obtain ⟨_, _, _, _, _, _, _, _, _, _, _, _, z⟩ := z
    exact z.elim
  refine ⟨ps_weak (ps_raise hc tk (pmk_oex Z.T Z.iC tI F1 hr hb Paired.nil pas hg Z.gC (pa_cons ha.run pa_nil he) hdb he hpl)) fun D σ H q => ?_⟩
  obtain ⟨cx, F, e, ts, R, q⟩ := q
  refine ⟨cx, F, e, ts, R, q.sbind (rel := relI) fun F1 H1 e1 x v ef hr1 q1 => ?_⟩
  obtain ⟨R1, hv⟩ := hr1
  obtain ⟨r, hr2, post⟩ := q1
  cases hr2
  refine ⟨by show 1 ≤ 1000; decide, fun a ha => ⟨a, C, v, rfl, Z.T, Z.no, upd_same, fun dx hdx hne => ⟨rfl, dx, [("what", v)], upd_same, ?_, ?_, ?_⟩⟩⟩
  · rw [upd_ne hne]
    exact upd_same
  · rw [upd_ne hne] at hdx
    exact hdx
  · rw [upd_ne hne] at hdx
    have e4 : upd (del (upd (upd (upd H1 a (exo a C none)) dx (exd dx [("what", v)])) a (exo a C (some dx))) a) dx (.xd [("what", v)]) = upd H1 dx (.xd [("what", v)]) := by
      funext z
      by_cases h1 : z = dx
      · subst h1
        rw [upd_same, upd_same]
      · rw [upd_ne h1, upd_ne h1]
        by_cases h2 : z = a
        · subst h2
          rw [del_same, ha]
        · rw [del_ne h2, upd_ne h2, upd_ne h1, upd_ne h2]
    rw [e4]
    have hF : F1 dx = none := none_of_ex R1.fh hdx
    exact post _ _ σ (.ref C) (some dx) (Ex.new hF) (fun _ => Ex.new hdx) (R1.newF hdx) ⟨⟨C, Z.gC, rfl⟩, [v], upd_same, v, [], rfl, Rep.mono (Ex.new hF) _ _ hv, rfl⟩

/-! ### catching -/
def goneD (D : Ends) : Option Nat → Ends
  | none => D
  | some i => { nx := fun σ H => D.nx (σ.set i none) H, rt := D.rt, bk := fun σ H => D.bk (σ.set i none) H, ct := fun σ H => D.ct (σ.set i none) H }
def heldS (σ : L2.St) (a : Addr) : Option Nat → L2.St
  | none => σ
  | some i => σ.set i (some (.ref a))
abbrev Cl := Value × Option Nat × (Addr → Value → Option Addr → TS)
/-- what the clauses want of an error of the body -/
def wCl (K : PySem.W.Frag) (Wout : WX) (D : Ends) : List Cl → WX
  | [] => Wout
  | (c, io, ts) :: r => fun cls d σ H => ∃ b, PySem.W.exmOne K cls c = some b ∧ (b = true → ∀ a, H a = none → ts a cls d (goneD D io) (heldS σ a io) H) ∧ (b = false → wCl K Wout D r cls d σ H)
abbrev SuOk (X : Cx) (su : List Stmt) (ts : Addr → Value → Option Addr → TS) : Prop :=
  ∀ (a : Addr) (oe : Obj) (cls : Value) (d : Option Addr) (pn : List (Addr × Obj)), Zc cls d oe → (∃ vs, oe.data = .fields vs) → PSs (X.suite a ((a, oe) :: pn)) su (ts a cls d)
inductive ClOk (X : Cx) : List ExceptHandler → List Cl → Prop
  | nil : ClOk X [] []
  | only {x : Str} {c : Value} {ts : Addr → Value → Option Addr → TS} {b : Stmt} {su : List Stmt} {p q : Pos} {hs : List ExceptHandler} {l : List Cl} (hc : Names X x c) (hsu : SuOk X (b :: su) ts) (r : ClOk X hs l) :
      ClOk X (.ExceptHandler (some (.Name x p)) none (b :: su) q :: hs) ((c, none, ts) :: l)
  | as {x n : Str} {i : Nat} {c : Value} {ts : Addr → Value → Option Addr → TS} {b : Stmt} {su : List Stmt} {p q : Pos} {hs : List ExceptHandler} {l : List Cl} (hi : X.N[i]? = some n) (hl : X.env.kindOf n = some .local) (hc : Names X x c) (hsu : SuOk X (b :: su) ts)
      (r : ClOk X hs l) : ClOk X (.ExceptHandler (some (.Name x p)) (some n) (b :: su) q :: hs) ((c, some i, ts) :: l)
section
variable {X : Cx} {pins : List (Addr × Obj)} {Wout : WX} {B : Heap} {sI s1 : Shared} {σ : L2.St} {H : Hp} {a : Addr} {cls : Value} {d : Option Addr} {D : Ends}
/-- an error that landed in the frame: it isn't one of the frames, its object is told -/
theorem landed_at {h : Heap} (hf : X.env.frame = some X.env.locals) (fl : HandSPX.FlyingZ B (X.env :: X.outer) a (Zc cls d) h) : (a ≠ X.env.locals ∧ a ∉ X.fs) ∧ ∃ o vs, h.get? a = some o ∧ Zc cls d o ∧ o.data = .fields vs := by
  obtain ⟨o, vs, ho, hz, hd⟩ := fl.there
  have key : a ∉ frs (X.env :: X.outer) := fun hm => by
    obtain ⟨_, o2, ho2, hn⟩ := fl.2.2.1.mem hm
    rw [ho] at ho2
    cases ho2
    exact hn vs hd
  refine ⟨⟨fun z => key (List.mem_filterMap.mpr ⟨_, List.mem_cons_self, by rw [hf, z]⟩), fun z => key ?_⟩, o, vs, ho, hz, hd⟩
  obtain ⟨e, m, z2⟩ := List.mem_filterMap.mp z
  exact List.mem_filterMap.mpr ⟨e, List.mem_cons_of_mem _ m, z2⟩
theorem clauses_ok (hs : X.stack = X.env :: X.outer) (hf : X.env.frame = some X.env.locals) (hN : X.N.Nodup) (tk : Takes X Wout) (ok : X.Ok) (J : Inv X pins σ H sI) (nb : ∀ b o, sI.heap.get? b = some o → b ∉ frs X.stack → B.get? b = some o)
    (up : sI.heap.UpToSlots s1.heap) (fl : HandSPX.FlyingZ B (X.env :: X.outer) a (Zc cls d) s1.heap) (na : H a = none) (os : s1.os = sI.os) (ag : AllBare s1.gens) {l : List Cl} {hds : List ExceptHandler} (hk : ClOk X hds l) :
    wCl X.K Wout D l cls d σ H → wpAny (model X.prog X.w) X.A (handleBy (.ref a) X.env hds) (SP X pins D) X.xe s1 := by
  obtain ⟨⟨nL, nF⟩, o, vs, ho, hz, hd⟩ := landed_at hf fl
  have J1 : Inv X pins σ H s1 := by
    have z := J.landed nb fl.1 up os ag
    exact z
  have S1 := J1.suite ho hd na nL nF
  have lt : PySem.W.Looks (model X.prog X.w) s1.heap (typeOf (.ref a)) cls := fun A' Q' E' s' k' q' => wpAny_typeOf_ref (k' _ _ ho) (by rw [hz.1]; exact q')
  have named : ∀ {x : Str} {c : Value} {p : Pos} {Q : Value → Shared → Prop} {E : Value → Shared → Prop}, Names X x c → Q c s1 → wpAny (model X.prog X.w) (X.A.mark (some (.ref a))) (eval (.Name x p) X.env) Q E s1 := fun {x c p Q E} hc q => by
    obtain ⟨g1, g2, m1 | ⟨m1, m2, m3⟩⟩ := hc
    · exact ld_glob (X := X.suite a ((a, o) :: (X.pn ++ pins))) S1 g1 m1 q g2
    · exact ld_blt (X := X.suite a ((a, o) :: (X.pn ++ pins))) S1 g1 m1 m2 q m3 g2
  -- the error's flight ends in the suite
  have land : ∀ {N : Unit → Shared → Prop} {E : Value → Shared → Prop}, (∀ h2 o2, (∃ ws, o2.data = .fields ws) → Zc cls d o2 → Inv (X.suite a ((a, o2) :: (X.pn ++ pins))) [] σ H { s1 with heap := h2 } → N () { s1 with heap := h2 }) →
      wpAny (model X.prog X.w) (X.A.mark (some (.ref a))) (setFlight (.ref a) none) N E s1 := fun {N E} k => HandSPX.lands_againZ fl fun h2 fl2 up2 => by
    have J2 : Inv X pins σ H { s1 with heap := h2 } := J.landed nb fl2.1 (up.trans up2) os ag
    obtain ⟨o2, ws, ho2, hz2, hd2⟩ := fl2.there
    exact k h2 o2 ⟨ws, hd2⟩ hz2 (J2.suite ho2 hd2 na nL nF)
  induction hk with
  | nil =>
    intro w
    refine wpAny_handleBy_nil ?_
    obtain ⟨_, _, _, oe, ws, T, _, _, g1, _, g2, g3, _⟩ := id fl
    unfold PySem.passOn
    refine wpAny_bind (wpAny_field g1 g2 g3 ?_)
    rw [if_neg (show ¬ ((Value.ref T == Value.none) = true) from by simp)]
    have away : wpAny (model X.prog X.w) X.A (setFlight (.ref a) X.env.frame) (fun _ s4 => wpAny (model X.prog X.w) X.A (throw (.ref a) : Sem Flow) (SP X pins D) X.xe s4) X.xe s1 := by
      rw [hf]
      refine HandSPX.setFlight_upZ fl fun h4 hh up4 => wpAny_throw (tk _ _ ?_)
      refine ⟨a, B, sI, pins, σ, H, cls, d, rfl, J, nb, up.trans up4, .inr (.inr ?_), na, os, ag, w⟩
      rw [hs]
      exact hh
    first
      | exact wpAny_bind (wpAny_pure (wpAny_bind away))
      | exact wpAny_bind away
  | @only x c ts b su p q hds l hc hsu r ih =>
    rintro ⟨k, hk, yes, no⟩
    refine wpAny_handleBy_cons (codeAny_handlers_test (named hc ((PySem.W.exm_one (M := model X.prog X.w) J1.kIn lt hk).here ?_))) fun z => nomatch z
    cases k with
    | false => exact ih (no rfl)
    | true =>
      refine codeAny_handlers_suite (land fun h2 o2 hd2 hz2 S2 => ?_)
      refine wpAny_mono ((hsu a o2 cls d (X.pn ++ pins) hz2 hd2).run [] _ σ H D S2 (yes rfl a na)) (fun fl6 s6 hsp => ?_) fun _ _ z => z.elim
      cases fl6 with
      | next => exact hsp.elim fun σ6 y => y.elim fun H6 y => ⟨σ6, H6, y.1.unsuite ok, y.2⟩
      | brk => exact hsp.elim fun σ6 y => y.elim fun H6 y => ⟨σ6, H6, y.1.unsuite ok, y.2⟩
      | cont => exact hsp.elim fun σ6 y => y.elim fun H6 y => ⟨σ6, H6, y.1.unsuite ok, y.2⟩
      | ret u =>
        obtain ⟨v6, σ6, H6, y1, y2, y3⟩ := hsp
        exact ⟨v6, σ6, H6, y1.unsuite ok, y2, y3⟩
  | @as x n i c ts b su p q hds l hi hl hc hsu r ih =>
    rintro ⟨k, hk, yes, no⟩
    refine wpAny_handleBy_cons (codeAny_handlers_test (named hc ((PySem.W.exm_one (M := model X.prog X.w) J1.kIn lt hk).here ?_))) fun z => nomatch z
    cases k with
    | false => exact ih (no rfl)
    | true =>
      refine codeAny_handlers_suite_as (land fun h2 o2 hd2 hz2 S2 => ?_)
      refine store_ok (X := X.suite a ((a, o2) :: (X.pn ++ pins))) (v := .ref a) S2 hN hi (Or.inl hl) rfl (fun s5 S5 => ?_) (Or.inr hl)
      refine wpAny_mono ((hsu a o2 cls d (X.pn ++ pins) hz2 hd2).run [] s5 _ H _ S5 (yes rfl a na)) (fun fl6 s6 hsp => ?_) fun _ _ z => z.elim
      have fin : ∀ {σ6 : L2.St} {H6 : Hp} {N : Shared → Prop}, Inv (X.suite a ((a, o2) :: (X.pn ++ pins))) [] σ6 H6 s6 → (∀ s7, Inv X pins (σ6.set i none) H6 s7 → N s7) →
          wpAny (model X.prog X.w) X.A (do bindName X.env n .none; unbindBehindTheSuite X.env n q) (fun _ s7 => N s7) X.xe s6 := fun {σ6 H6 N} y z => gone_ok (y.unsuite ok) hN hi hl z
      cases fl6 with
      | next => exact hsp.elim fun σ6 y => y.elim fun H6 y => fin y.1 fun s7 z => ⟨_, H6, z, y.2⟩
      | brk => exact hsp.elim fun σ6 y => y.elim fun H6 y => fin y.1 fun s7 z => ⟨_, H6, z, y.2⟩
      | cont => exact hsp.elim fun σ6 y => y.elim fun H6 y => fin y.1 fun s7 z => ⟨_, H6, z, y.2⟩
      | ret u =>
        obtain ⟨v6, σ6, H6, y1, y2, y3⟩ := hsp
        exact fin y1 fun s7 z => ⟨v6, _, H6, z, y2, y3⟩
theorem ps_try {body : List Stmt} {h₀ : ExceptHandler} {hds : List ExceptHandler} {l : List Cl} {pos : Pos} {tb : WX → TS} (hs : X.stack = X.env :: X.outer) (hf : X.env.frame = some X.env.locals) (hN : X.N.Nodup) (tk : Takes X Wout)
    (hb : ∀ (W : WX) (pn : List (Addr × Obj)) (xe : Value → Shared → Prop), Takes (X.tr pn xe) W → PassesOwn (model X.prog X.w) X.A X.env xe → PSs (X.tr pn xe) body (tb W)) (hh : ClOk X (h₀ :: hds) l) :
    PS X (.Try body (h₀ :: hds) [] [] pos) (fun D σ H => tb (wCl X.K Wout D l) D σ H) := by
  refine ⟨fun pins s σ H D I h => wpAny_Try_except ?_⟩
  have ok := I.ok
  have hfr : X.A.frames = some (X.env :: X.outer) := ok.frames.trans (by rw [hs])
  let wish : Value → Shared → Prop := fun e s₁ => wpAny (model X.prog X.w) X.A (noteFrame e X.env) (fun _ s₂ => wpAny (model X.prog X.w) X.A (setFlight e none) (fun _ s₃ => wpAny (model X.prog X.w) X.A (handleBy e X.env (h₀ :: hds)) (SP X pins D) X.xe s₃) X.xe s₂) X.xe s₁
  have tw : Takes (X.tr (X.pn ++ pins) wish) (wCl X.K Wout D l) := fun u s' z => by
    obtain ⟨a, B, sI, pins', σ', H', cls, d, rfl, J, nb, up, sky, na, os, ag, w⟩ := z
    have sky2 : Sky B (X.env :: X.outer) a (Zc cls d) X.env.locals s'.heap := by
      rw [← hs]
      exact sky
    exact Sky.land Zc.steady hfr hf sky2 fun h3 fl3 up3 => clauses_ok (s1 := { s' with heap := h3 }) hs hf hN tk ok (J.ofTry ok) nb (up.trans up3) fl3 na os ag hh w
  refine wpAny_mono ((hb _ _ wish tw PassesOwn.looking).run [] s σ H D (I.toTry _) h) (fun f s1 hsp => ?_) fun _ _ z => z
  cases f with
  | next => exact hsp.elim fun σ6 y => y.elim fun H6 y => wpAny_execs_nil ⟨σ6, H6, y.1.ofTry ok, y.2⟩
  | brk => exact hsp.elim fun σ6 y => y.elim fun H6 y => ⟨σ6, H6, y.1.ofTry ok, y.2⟩
  | cont => exact hsp.elim fun σ6 y => y.elim fun H6 y => ⟨σ6, H6, y.1.ofTry ok, y.2⟩
  | ret u =>
    obtain ⟨v6, σ6, H6, y1, y2, y3⟩ := hsp
    exact ⟨v6, σ6, H6, y1.ofTry ok, y2, y3⟩
end
end DL

/-! DMQ: try and its clauses as data; what a clause asks of its error. -/
namespace DL
open PySem PySem.Spec PyProof.Rows L2 Evl

section
variable {K : KB} {c : Ctx} {F H : Hp} {σ : L2.St} {e : Env} {ts : List (V × O)}
theorem RE.blank {i : Nat} {x : Option V} (R : RE K c F H σ e ts) (hi : e.free i = true) : RE K c F H (σ.set i x) (e.set i none) ts := by
  obtain ⟨hs, fs, h1, h2, h3, h4⟩ := R.hd
  obtain ⟨A, M, B, k1, _, k3⟩ := h1.put i hi
  subst k1
  rw [← List.append_assoc] at h2
  obtain ⟨f1, f2, e1, h5, h6⟩ := h2.split
  obtain ⟨g1, g2, e2, h7, h8⟩ := h6.split
  subst e2
  subst e1
  have sub : (f1 ++ g2).Sublist (f1 ++ (g1 ++ g2)) := List.Sublist.append_left (List.sublist_append_right g1 g2) f1
  refine ⟨R.g, R.f0, R.fh, R.nw, _, f1 ++ g2, k3 x, ?_, h3.sublist sub, fun p hp => h4 p (sub.subset hp)⟩
  rw [← List.append_assoc]
  exact Held.join h5 h8
end
/-! ### the clauses -/
def excSlot (x : Xn) (a dd : Addr) : Slot := some (false, .im (.exc x.cls a dd (x.fs.map (·.1)) (x.fs.map (·.2))))
structure Hand where
  subs : List (Str × Bool)
  io : Option Nat
  s : Addr → Addr → Str → SDen
def clrE : Option Nat → Env → Option Env
  | none, e => some e
  | some i, e => if e.free i = true then some (e.set i none) else none
def clr (io : Option Nat) : SRes → Option SRes
  | .nx m e => (clrE io e).map fun e => .nx m e
  | .rt m e r => match r with
    | .bor j o => if io = some j then none else (clrE io e).map fun e => .rt m e r
    | r => (clrE io e).map fun e => .rt m e r
  | .bk m e => (clrE io e).map fun e => .bk m e
  | .ct m e => (clrE io e).map fun e => .ct m e
  | .er _ _ _ => none
/-- the same, wherever the error lies -/
noncomputable def uni (f : Addr → Addr → Option SRes) : Option SRes := by
  classical exact if ∀ a dd, f a dd = f 0 0 then f 0 0 else none
theorem uni_at {f : Addr → Addr → Option SRes} {r : SRes} (h : uni f = some r) (a dd : Addr) : f a dd = some r := by
  unfold uni at h
  split at h
  · rename_i z
    rw [z a dd]
    exact h
  · cases h
theorem uni_of {f : Addr → Addr → Option SRes} (h : ∀ a dd, f a dd = f 0 0) : uni f = f 0 0 := if_pos h
noncomputable def scatch (x : Xn) (e : Env) (m : Bool) : List Hand → Option SRes
  | [] => some (.er m e x)
  | h :: r => match h.subs.lookup x.cls with
    | none => none
    | some false => scatch x e m r
    | some true => SRes.more m (match h.io with
      | none => uni fun a dd => (h.s a dd x.cls e).bind (clr none)
      | some i => if e.free i = true ∧ x.fs.isEmpty = false then uni fun a dd => (h.s a dd x.cls (e.set i (excSlot x a dd))).bind (clr (some i)) else none)
noncomputable def stry (b : SDen) (hs : List Hand) : SDen := fun e => match b e with
  | some (.er m e1 x) => scatch x e1 m hs
  | r => r
abbrev SuD (X : Cx) (nm : Bool) (su : List Stmt) (subs : List (Str × Bool)) (s : Addr → Addr → Str → SDen) : Prop :=
  ∀ (a dd : Addr) (oe : Obj) (x : Str) (C : Addr) (d : Option Addr) (pn : List (Addr × Obj)), subs.lookup x = some true → X.mg x = some (.ref C) → Zc (.ref C) d oe → (nm = true → d = some dd) → (∃ vs, oe.data = .fields vs) → DSs (X.suite a ((a, oe) :: pn)) (fun _ _ _ _ => False) su (s a dd x)
abbrev SubsOk (X : Cx) (c : Value) (subs : List (Str × Bool)) : Prop := ∀ y b, subs.lookup y = some b → ∀ C, X.mg y = some (.ref C) → PySem.W.exmOne X.K (.ref C) c = some b
inductive HandOk (X : Cx) : List ExceptHandler → List Hand → Prop
  | nil : HandOk X [] []
  | only {x : Str} {c : Value} {s : Addr → Addr → Str → SDen} {subs : List (Str × Bool)} {b : Stmt} {su : List Stmt} {p q : Pos} {hs : List ExceptHandler} {l : List Hand} (hc : Names X x c) (hsub : SubsOk X c subs) (hsu : SuD X false (b :: su) subs s) (r : HandOk X hs l) :
      HandOk X (.ExceptHandler (some (.Name x p)) none (b :: su) q :: hs) (⟨subs, none, s⟩ :: l)
  | as {x n : Str} {i : Nat} {c : Value} {s : Addr → Addr → Str → SDen} {subs : List (Str × Bool)} {b : Stmt} {su : List Stmt} {p q : Pos} {hs : List ExceptHandler} {l : List Hand} (hi : X.N[i]? = some n) (hl : X.env.kindOf n = some .local) (hc : Names X x c) (hsub : SubsOk X c subs) (hsu : SuD X true (b :: su) subs s)
      (r : HandOk X hs l) : HandOk X (.ExceptHandler (some (.Name x p)) (some n) (b :: su) q :: hs) (⟨subs, some i, s⟩ :: l)
/-- the reading of a clause's suite -/
def tSu (X : Cx) (nm : Bool) (subs : List (Str × Bool)) (s : Addr → Addr → Str → SDen) (a : Addr) (cls : Value) (d : Option Addr) : TS := fun D σ H =>
  ∃ (x : Str) (C dd : Addr), subs.lookup x = some true ∧ X.mg x = some (.ref C) ∧ cls = .ref C ∧ (nm = true → d = some dd) ∧ rdS X.B (fun _ _ _ _ => False) (s a dd x) D σ H
theorem su_ok {X : Cx} {nm : Bool} {su : List Stmt} {subs : List (Str × Bool)} {s : Addr → Addr → Str → SDen} (h : SuD X nm su subs s) : SuOk X su (tSu X nm subs s) := fun a oe cls d pn hz hf => ⟨fun pins sh σ H D I q => by
  obtain ⟨x, C, dd, h1, h2, h3, h4, q⟩ := q
  subst h3
  exact (h a dd oe x C d pn h1 h2 hz h4 hf).run.run pins sh σ H D I q⟩
def clOf (X : Cx) : List Hand → List Value → List Cl
  | h :: hs, c :: cs => (c, h.io, tSu X h.io.isSome h.subs h.s) :: clOf X hs cs
  | _, _ => []
theorem hand_cl {X : Cx} {hds : List ExceptHandler} {l : List Hand} (h : HandOk X hds l) : ∃ cs, cs.length = l.length ∧ ClOk X hds (clOf X l cs) ∧ ∀ (i : Nat) (hd : Hand) (c : Value), l[i]? = some hd → cs[i]? = some c → SubsOk X c hd.subs := by
  induction h with
  | nil => exact ⟨[], rfl, .nil, fun i hd c e => by simp at e⟩
  | @only x c s subs b su p q hs l hc hsub hsu r ih =>
    obtain ⟨cs, h1, h2, h3⟩ := ih
    refine ⟨c :: cs, by simp [h1], .only hc (su_ok hsu) h2, fun i hd c' e1 e2 => ?_⟩
    cases i with
    | zero => cases e1; cases e2; exact hsub
    | succ i => exact h3 i hd c' (by simpa using e1) (by simpa using e2)
  | @as x n i c s subs b su p q hs l hi hl hc hsub hsu r ih =>
    obtain ⟨cs, h1, h2, h3⟩ := ih
    refine ⟨c :: cs, by simp [h1], .as hi hl hc (su_ok hsu) h2, fun i hd c' e1 e2 => ?_⟩
    cases i with
    | zero => cases e1; cases e2; exact hsub
    | succ i => exact h3 i hd c' (by simpa using e1) (by simpa using e2)
section
variable {X : Cx} {W : WX} {c : Ctx} {F H : Hp} {σ : L2.St} {e : Env} {ts : List (V × O)} {D : Ends}
/-- a suite that ended: its name goes -/
theorem postS_clr {io : Option Nat} {r r' : SRes} (hc : clr io r = some r') (post : PostS X.B W D c F ts H r') : PostS X.B (fun _ _ _ _ => False) (goneD D io) c F ts H r := by
  have key : ∀ {e e' : Env} {F' H' : Hp} {σ' : L2.St}, clrE io e = some e' → RE X.B c F' H' σ' e ts → RE X.B c F' H' (match io with | none => σ' | some i => σ'.set i none) e' ts := by
    intro e e' F' H' σ' he R
    cases io with
    | none => cases he; exact R
    | some i =>
      have he : (if e.free i = true then some (e.set i none) else none) = some e' := he
      split at he
      · rename_i hf
        cases he
        exact R.blank hf
      · cases he
  cases r with
  | nx m e =>
    obtain ⟨e', he, rfl⟩ := Option.map_eq_some_iff.mp hc
    intro F' H' σ' ef eh R
    cases io with
    | none => exact post F' H' _ ef eh (key he R)
    | some i => exact post F' H' _ ef eh (key he R)
  | bk m e =>
    obtain ⟨e', he, rfl⟩ := Option.map_eq_some_iff.mp hc
    intro F' H' σ' ef eh R
    cases io with
    | none => exact post F' H' _ ef eh (key he R)
    | some i => exact post F' H' _ ef eh (key he R)
  | ct m e =>
    obtain ⟨e', he, rfl⟩ := Option.map_eq_some_iff.mp hc
    intro F' H' σ' ef eh R
    cases io with
    | none => exact post F' H' _ ef eh (key he R)
    | some i => exact post F' H' _ ef eh (key he R)
  | er m e x => cases hc
  | rt m e rv =>
    have rt_eq : (goneD D io).rt = D.rt := by cases io <;> rfl
    show ∀ F' H' σ' v, Ex F F' → (m = false → Ex H H') → relR X.B c F' H' σ' e ts rv v → (goneD D io).rt v H'
    rw [rt_eq]
    intro F' H' σ' v ef eh hr
    cases rv with
    | im d =>
      obtain ⟨e', he, rfl⟩ := Option.map_eq_some_iff.mp hc
      exact post F' H' _ v ef eh ⟨key he hr.1, hr.2⟩
    | new o =>
      obtain ⟨e', he, rfl⟩ := Option.map_eq_some_iff.mp hc
      have R : RE X.B c F' H' σ' e ((v, o) :: ts) := hr
      have R2 : ∃ σ2, RE X.B c F' H' σ2 e' ((v, o) :: ts) := by
        cases io with
        | none => cases he; exact ⟨_, R⟩
        | some i =>
          have he : (if e.free i = true then some (e.set i none) else none) = some e' := he
          split at he
          · rename_i hf
            cases he
            exact ⟨_, R.blank (x := none) hf⟩
          · cases he
      obtain ⟨σ2, R2⟩ := R2
      exact post F' H' σ2 v ef eh R2
    | bor j o =>
      have hc' : (if io = some j then none else (clrE io e).map fun e => SRes.rt m e (.bor j o)) = some r' := hc
      split at hc'
      · cases hc'
      · rename_i hne
        obtain ⟨e', he, rfl⟩ := Option.map_eq_some_iff.mp hc'
        obtain ⟨R, hv, b, hb⟩ := hr
        refine post F' H' _ v ef eh ⟨key he R, ?_, b, ?_⟩
        · cases io with
          | none => exact hv
          | some i =>
            have hij : i ≠ j := fun z => hne (by rw [z])
            show (σ'.set i none)[j]? = _
            rw [List.getElem?_set_ne hij]
            exact hv
        · cases io with
          | none => cases he; exact hb
          | some i =>
            have hij : i ≠ j := fun z => hne (by rw [z])
            have he : (if e.free i = true then some (e.set i none) else none) = some e' := he
            split at he
            · cases he
              rw [List.getElem?_set_ne hij]
              exact hb
            · cases he
theorem postS_mono {r r' : SRes} {m : Bool} {F1 H1 : Hp} {K : KB} (hm : SRes.more m (some r) = some r') (ef : Ex F F1) (eh : m = false → Ex H H1) (post : PostS K W D c F ts H r') : PostS K W D c F1 ts H1 r := by
  cases r with
  | nx m2 e2 => cases hm; exact fun F' H' σ' ef' eh' R => post F' H' σ' (ef.trans ef') (fun z => (eh (or_l z)).trans (eh' (or_r z))) R
  | rt m2 e2 rv => cases hm; exact fun F' H' σ' v ef' eh' R => post F' H' σ' v (ef.trans ef') (fun z => (eh (or_l z)).trans (eh' (or_r z))) R
  | bk m2 e2 => cases hm; exact fun F' H' σ' ef' eh' R => post F' H' σ' (ef.trans ef') (fun z => (eh (or_l z)).trans (eh' (or_r z))) R
  | ct m2 e2 => cases hm; exact fun F' H' σ' ef' eh' R => post F' H' σ' (ef.trans ef') (fun z => (eh (or_l z)).trans (eh' (or_r z))) R
  | er m2 e2 x => cases hm; exact fun F' H' σ' cls d ef' eh' R hx => post F' H' σ' cls d (ef.trans ef') (fun z => (eh (or_l z)).trans (eh' (or_r z))) R hx
/-- an error, caught: what the clauses want of it -/
theorem scatch_ok {x : Xn} {e1 : Env} {m : Bool} {cls : Value} {d : Option Addr} {F1 H1 : Hp} {σ1 : L2.St} (ef : Ex F F1) (eh : m = false → Ex H H1) (R : RE X.B c F1 H1 σ1 e1 ts) (hx : XRel X.B F1 H1 x cls d) : ∀ {l : List Hand} {cs : List Value} {r : SRes}, cs.length = l.length →
    (∀ (i : Nat) (hd : Hand) (c : Value), l[i]? = some hd → cs[i]? = some c → SubsOk X c hd.subs) → scatch x e1 m l = some r → PostS X.B W D c F ts H r → wCl X.K W D (clOf X l cs) cls d σ1 H1
  | [], cs, r, hl, hs, hr, post => by
    cases hr
    have q : W cls d σ1 H1 := post F1 H1 σ1 cls d ef eh R hx
    exact q
  | h :: l, [], r, hl, hs, hr, post => by cases hl
  | h :: l, cv :: cs, r, hl, hs, hr, post => by
    obtain ⟨⟨C, hC, rfl⟩, hd⟩ := id hx
    unfold scatch at hr
    cases hb : h.subs.lookup x.cls with
    | none => rw [hb] at hr; cases hr
    | some b =>
      rw [hb] at hr
      refine ⟨b, hs 0 h cv rfl rfl x.cls b hb C hC, fun hbt a na => ?_, fun hbf => ?_⟩
      · subst hbt
        dsimp only at hr
        obtain ⟨subs, io, s⟩ := h
        cases io with
        | none =>
          dsimp only at hr
          cases hu : uni (fun a dd => (s a dd x.cls e1).bind (clr none)) with
          | none => rw [hu] at hr; cases hr
          | some r0 =>
            rw [hu] at hr
            refine ⟨x.cls, C, d.getD 0, hb, hC, rfl, fun z => (by cases z), c, F1, e1, ts, R, ?_⟩
            obtain ⟨r1, h1, h2⟩ := Option.bind_eq_some_iff.mp (uni_at hu a (d.getD 0))
            exact ⟨r1, h1, postS_clr (io := none) h2 (postS_mono hr ef eh post)⟩
        | some i =>
          dsimp only at hr
          split at hr
          · rename_i hcond
            cases hu : uni (fun a dd => (s a dd x.cls (e1.set i (excSlot x a dd))).bind (clr (some i))) with
            | none => rw [hu] at hr; cases hr
            | some r0 =>
              rw [hu] at hr
              cases d with
              | none =>
                have z : x.fs = [] := hd
                rw [z] at hcond
                cases hcond.2
              | some dd =>
                obtain ⟨vs, hF, hrep⟩ := hd
                refine ⟨x.cls, C, dd, hb, hC, rfl, fun _ => rfl, c, F1, e1.set i (excSlot x a dd), ts, ?_, ?_⟩
                · have hl2 : (x.fs.map (·.1)).length = vs.length := by rw [List.length_map, ← hrep.length, List.length_map]
                  exact R.setIm hcond.1 (v := .ref a) (d := .exc x.cls a dd (x.fs.map (·.1)) (x.fs.map (·.2))) ⟨vs, rfl, hF, hl2, hrep⟩
                · obtain ⟨r1, h1, h2⟩ := Option.bind_eq_some_iff.mp (uni_at hu a dd)
                  exact ⟨r1, h1, postS_clr (io := some i) h2 (postS_mono hr ef eh post)⟩
          · cases hr
      · subst hbf
        exact scatch_ok ef eh R hx (by simpa using hl) (fun i hd c' e1 e2 => hs (i + 1) hd c' (by simpa using e1) (by simpa using e2)) hr post
end
theorem ds_try {X : Cx} {W : WX} {body : List Stmt} {h₀ : ExceptHandler} {hds : List ExceptHandler} {l : List Hand} {pos : Pos} {db : SDen} (hs : X.stack = X.env :: X.outer) (hf : X.env.frame = some X.env.locals) (hN : X.N.Nodup) (tk : Takes X W)
    (hb : ∀ (W' : WX) (pn : List (Addr × Obj)) (xe : Value → Shared → Prop), Takes (X.tr pn xe) W' → PassesOwn (model X.prog X.w) X.A X.env xe → DSs (X.tr pn xe) W' body db) (hh : HandOk X (h₀ :: hds) l) :
    DS X W (.Try body (h₀ :: hds) [] [] pos) (stry db l) := by
  obtain ⟨cs, hl, hcl, hsub⟩ := hand_cl hh
  refine ⟨ps_weak (ps_try (tb := fun W' => rdS X.B W' db) hs hf hN tk (fun W' pn xe t p => (hb W' pn xe t p).run) hcl) fun D σ H q => ?_⟩
  obtain ⟨c, F, e, ts, R, r, hr, post⟩ := q
  refine ⟨c, F, e, ts, R, ?_⟩
  unfold stry at hr
  cases hd : db e with
  | none => rw [hd] at hr; cases hr
  | some q =>
    rw [hd] at hr
    refine ⟨q, hd, ?_⟩
    cases q with
    | nx m e1 => cases hr; exact post
    | rt m e1 rv => cases hr; exact post
    | bk m e1 => cases hr; exact post
    | ct m e1 => cases hr; exact post
    | er m e1 x => exact fun F' H' σ' cls d ef eh R' hx => scatch_ok ef eh R' hx hl hsub hr post

/-! ### what a suite asks of its error -/
def dxf (a dd : Addr) (i : Nat) (f : Str) : Den D := fun e => match e[i]? with
  | some (some (_, .im (.exc _ a' dd' ns ds))) => if a' = a ∧ dd' = dd then ((ns.zip ds).lookup f).map fun d => .ok false e d else none
  | _ => none
def dxi (a dd : Addr) (i : Nat) (b : Option Bool) : Den D := fun e => match e[i]? with
  | some (some (_, .im (.exc _ a' dd' _ _))) => if a' = a ∧ dd' = dd then b.map fun b => .ok false e (.bl b) else none
  | _ => none
theorem lookup_rel {K : KB} {F : Hp} {f : Str} {d : D} : ∀ {ns : List Str} {ds : List D} {xs : List V}, Reps K F ds xs → (ns.zip ds).lookup f = some d → ∃ v, (ns.zip xs).lookup f = some v ∧ Rep K F d v
  | [], ds, xs, h, e => by simp at e
  | n :: ns, [], xs, h, e => by simp at e
  | n :: ns, d0 :: ds, xs, h, e => by
    obtain ⟨x, r, e1, h1, h2⟩ := h
    subst e1
    rw [List.zip_cons_cons, List.lookup_cons] at e ⊢
    cases q : f == n with
    | true =>
      rw [q] at e
      cases e
      exact ⟨x, rfl, h1⟩
    | false =>
      rw [q] at e
      exact lookup_rel h2 e
section
variable {X : Cx} {W : WX} {a dd C : Addr} {oe : Obj} {pn : List (Addr × Obj)} {ex ec : Expr} {pos p : Pos} {i : Nat} {f : Str} {d : Option Addr}
theorem di_xf (hz : Zc (.ref C) d oe) (hf : ∃ vs, oe.data = .fields vs) (T : XfC X.K C) (hno : PySem.W.findIn X.K (.ref C) f = some none) (h : PE (X.suite a ((a, oe) :: pn)) ex (tVar i)) (hsome : d = some dd)
    (hb : attributeBase ex f X.env (eval ex X.env) = eval ex X.env := by rfl) : DI (X.suite a ((a, oe) :: pn)) W (.Attribute ex f pos) (dxf a dd i f) := ⟨pe_weak (pe_xf T hno hz hf h hb) fun σ H Q q => by
  obtain ⟨c, F, e, ts, R, r, hr, post⟩ := q
  unfold dxf at hr
  split at hr
  · rename_i b c' a' dd' ns ds hs
    split at hr
    · rename_i hcond
      obtain ⟨rfl, rfl⟩ := hcond
      obtain ⟨d1, hl, rfl⟩ := Option.map_eq_some_iff.mp hr
      obtain ⟨v, hv, xs, rfl, hF, hlen, hrep⟩ := R.slotIm hs
      obtain ⟨v1, hl1, hr1⟩ := lookup_rel hrep hl
      exact ⟨_, hv, rfl, rfl, dd', _, v1, hsome, R.fh _ _ hF, hl1, post F H v1 (Ex.refl _) (fun _ => Ex.refl _) ⟨R, hr1⟩⟩
    · cases hr
  · cases hr⟩
structure XiC (K : PySem.W.Frag) (C : Addr) : Prop where
  cl : (PySem.W.clsIn K C).isSome = true
  xf : XfC K C
  ha : PySem.W.findIn K (.ref C) "__class__" = some (some (.builtin "object.__class__"))
  hn : PySem.W.specialIn K (.builtin "object.__class__") "__get__" = some (some (.builtin "getset_descriptor.__get__"))
  ht : PySem.W.takesIn K (.builtin "object.__class__") = some true
  hm : PySem.W.mroIn K C (.type "object") = some true
def rXi (K : PySem.W.Frag) (C a dd : Addr) : List V → Hp → VK → Prop := fun xs H Q => ∃ (c : V) (cv : Value) (b : Bool) (fs : List (Str × V)), xs = [.ref a, c] ∧ H dd = some (.xd fs) ∧ (∀ u, RelV c u → u = cv) ∧ PySem.W.kitOne K (.ref C) cv = some b ∧ Q (.bl b) H
theorem call_xi (T : XiC X.K C) (hz : Zc (.ref C) (some dd) oe) (hf : ∃ vs, oe.data = .fields vs) : CallR (X.suite a ((a, oe) :: pn)) (.builtin "isinstance") (rXi X.K C a dd) := by
  intro pins s σ H xs us Q I r h
  obtain ⟨c, cv, b, fs, rfl, hF, hcv, e, q⟩ := h
  cases r with
  | cons rx rr =>
    cases rr with
    | cons rt rr =>
      cases rr
      cases rx
      have ec := hcv _ rt
      subst ec
      obtain ⟨hget, _⟩ := I.pin (a, oe) (List.mem_append.mpr (.inl List.mem_cons_self))
      obtain ⟨vs, hv⟩ := hf
      obtain ⟨mA, hns, _⟩ : ∃ mA, s.heap.Ns1 dd mA ∧ ∀ f, RelO (fs.lookup f) (mA f) := I.hok dd _ hF
      obtain ⟨od, ho, _⟩ := lookIn_ns hns
      have J : PySem.W.InstAt s.heap a oe C (some od) := ⟨hget, hz.1, by unfold PySem.W.notCls; rw [hv] <;> rfl, by rw [hz.2]; exact ho⟩
      exact PySem.W.kia_one (PySem.W.kitx_exc T.cl T.xf.ga T.xf.gg T.xf.exC T.ha T.hn T.ht T.hm) I.kIn J e (fun z => nomatch z) fun tk => ⟨.bl b, H, I.kept (t' := tk) fun _ _ z => z, rfl, q⟩
theorem di_xi {vc : V} {cv : Value} {b : Option Bool} (hz : Zc (.ref C) d oe) (hsome : d = some dd) (hf : ∃ vs, oe.data = .fields vs) (T : XiC X.K C) (hcv : ∀ u, RelV vc u → u = cv) (hk : ∀ k, b = some k → PySem.W.kitOne X.K (.ref C) cv = some k)
    (hg : Gl (X.suite a ((a, oe) :: pn)) "isinstance") (hm : (X.suite a ((a, oe) :: pn)).mg "isinstance" = none) (h : PE (X.suite a ((a, oe) :: pn)) ex (tVar i)) (h2 : PE (X.suite a ((a, oe) :: pn)) ec (tC vc))
    (he : starEach (ex :: [ec]) X.env = (false, eval ex X.env) :: starEach [ec] X.env := by rfl) (he2 : starEach (ec :: []) X.env = (false, eval ec X.env) :: starEach [] X.env := by rfl) (hpl : (backTo pos (starEach [ec] X.env)).any (·.1) = false := by rfl) :
    DI (X.suite a ((a, oe) :: pn)) W (.Call (.Name "isinstance" p) [ex, ec] [] pos) (dxi a dd i b) := by
  subst hsome
  refine ⟨pe_weak (pe_callB (call_xi T hz hf) hg hm (by rfl) (pa_cons h (pa_cons h2 pa_nil he2) he) (by decide) (by decide) he hpl) fun σ H Q q => ?_⟩
  obtain ⟨c, F, e, ts, R, r, hr, post⟩ := q
  unfold dxi at hr
  split at hr
  · rename_i bb c' a' dd' ns ds hs
    split at hr
    · rename_i hcond
      obtain ⟨rfl, rfl⟩ := hcond
      obtain ⟨k, hk1, rfl⟩ := Option.map_eq_some_iff.mp hr
      obtain ⟨v, hv, xs, rfl, hF, hlen, hrep⟩ := R.slotIm hs
      exact ⟨_, hv, vc, cv, k, _, rfl, R.fh _ _ hF, hcv, hk k hk1, post F H (.bl k) (Ex.refl _) (fun _ => Ex.refl _) ⟨R, rfl⟩⟩
    · cases hr
  · cases hr
end
/-! ### tables of classes -/
section
variable {K : PySem.W.Frag} {mg : Str → Option Value}
abbrev SubsT (K : PySem.W.Frag) (mg : Str → Option Value) (c : Value) (subs : List (Str × Bool)) : Prop := ∀ y b, subs.lookup y = some b → ∀ C, mg y = some (.ref C) → PySem.W.exmOne K (.ref C) c = some b
theorem subsT_nil {c : Value} : SubsT K mg c [] := fun y b h => by cases h
theorem subsT_cons {c : Value} {y : Str} {b : Bool} {C : Addr} {l : List (Str × Bool)} (h : mg y = some (.ref C)) (k : PySem.W.exmOne K (.ref C) c = some b) (r : SubsT K mg c l) : SubsT K mg c ((y, b) :: l) := fun z b2 e C2 h2 => by
  rw [List.lookup_cons] at e
  cases q : z == y with
  | false => rw [q] at e; exact r z b2 e C2 h2
  | true =>
    rw [q] at e
    cases e
    have : z = y := by simpa using q
    subst this
    rw [h] at h2
    cases h2
    exact k
abbrev KitsT (K : PySem.W.Frag) (mg : Str → Option Value) (c : Value) (subs : List (Str × Bool)) : Prop := ∀ y b, subs.lookup y = some b → ∀ C, mg y = some (.ref C) → PySem.W.kitOne K (.ref C) c = some b
theorem kitsT_nil {c : Value} : KitsT K mg c [] := fun y b h => by cases h
theorem kitsT_cons {c : Value} {y : Str} {b : Bool} {C : Addr} {l : List (Str × Bool)} (h : mg y = some (.ref C)) (k : PySem.W.kitOne K (.ref C) c = some b) (r : KitsT K mg c l) : KitsT K mg c ((y, b) :: l) := fun z b2 e C2 h2 => by
  rw [List.lookup_cons] at e
  cases q : z == y with
  | false => rw [q] at e; exact r z b2 e C2 h2
  | true =>
    rw [q] at e
    cases e
    have : z = y := by simpa using q
    subst this
    rw [h] at h2
    cases h2
    exact k
abbrev XisT (K : PySem.W.Frag) (mg : Str → Option Value) (names : List Str) : Prop := ∀ y ∈ names, ∀ C, mg y = some (.ref C) → XiC K C ∧ PySem.W.findIn K (.ref C) "what" = some none
theorem xisT_nil : XisT K mg [] := fun y h => by cases h
theorem xisT_cons {y : Str} {C : Addr} {l : List Str} (h : mg y = some (.ref C)) (k : XiC K C ∧ PySem.W.findIn K (.ref C) "what" = some none) (r : XisT K mg l) : XisT K mg (y :: l) := fun z hz C2 h2 => by
  rcases List.mem_cons.mp hz with e | e
  · subst e
    rw [h] at h2
    cases h2
    exact k
  · exact r z e C2 h2
theorem lookup_in {y : Str} {b : Bool} : ∀ {l : List (Str × Bool)}, l.lookup y = some b → y ∈ l.map (·.1)
  | [], h => by cases h
  | (z, b2) :: l, h => by
    rw [List.lookup_cons] at h
    cases q : y == z with
    | true =>
      have : y = z := by simpa using q
      rw [this]
      exact List.mem_cons_self
    | false =>
      rw [q] at h
      exact List.mem_cons_of_mem _ (lookup_in h)
theorem exm_own {C D : Addr} {b : Bool} (h1 : PySem.W.subIn K (.ref D) (.type "BaseException") = some true) (h2 : PySem.W.isClsIn K D = true) (h3 : PySem.W.typeIn K (.ref D) = some (.type "type")) (h4 : PySem.W.subIn K (.ref C) (.ref D) = some b) : PySem.W.exmOne K (.ref C) (.ref D) = some b := by
  have e1 : (PySem.W.subIn K (.ref D) (.type "BaseException") == some true) = true := by rw [h1] <;> rfl
  have e2 : ((PySem.W.clsIn K D).isSome && PySem.W.typeIn K (.ref D) == some (.type "type")) = true := by
    have h2' : (PySem.W.clsIn K D).isSome = true := h2
    rw [h2', h3] <;> rfl
  show (if (PySem.W.subIn K (.ref D) (.type "BaseException") == some true) = true then (if ((PySem.W.clsIn K D).isSome && PySem.W.typeIn K (.ref D) == some (.type "type")) = true then PySem.W.subIn K (.ref C) (.ref D) else none) else none) = some b
  rw [if_pos e1, if_pos e2]
  exact h4
end
end DL

/-! DMR: denotations that end in an error, reckoned; try. -/
namespace DL
open PySem PySem.Spec PyProof.Rows L2 Evl

def SE (s : SDen) (e : Env) (P : Xn → Env → Prop) : Prop := ∃ m e' x, s e = some (.er m e' x) ∧ P x e'
def EE {α : Type} (d : Den α) (e : Env) (P : Xn → Env → Prop) : Prop := ∃ m e' x, d e = some (.err m e' x) ∧ P x e'
/-- a def, given what is frozen alone, raises -/
def FE (f : FDen) (ds : List D) (P : Xn → Prop) : Prop := ∃ m x, f (ds.map O.im) = some (.err m (ds.map O.im) x) ∧ P x
section
variable {α β : Type} {q : Bool} {e : Env} {P : Xn → Env → Prop} {a b : SDen} {B C : Env → Prop}
theorem se_raise {c : Str} {d : Den D} (h : EW false d e fun v e' => P (xn c v) e') : SE (sraise c d) e P := by
  obtain ⟨m, e', v, h1, _, h2⟩ := h
  refine ⟨m || false, e', xn c v, ?_, h2⟩
  unfold sraise sbind
  rw [h1]
  rfl
theorem se_seqL (h : SE a e P) : SE (sseq a b) e P := by
  obtain ⟨m, e', x, h1, h2⟩ := h
  refine ⟨m, e', x, ?_, h2⟩
  unfold sseq
  rw [h1]
theorem se_seqR (h : SW a e ⟨fun e' => SE b e' P, fun _ _ => False, fun _ => False, fun _ => False⟩) : SE (sseq a b) e P := by
  obtain ⟨r, hr, p⟩ := h
  cases r with
  | nx m e1 =>
    obtain ⟨m2, e', x, h1, h2⟩ : SE b e1 P := p
    refine ⟨m || m2, e', x, ?_, h2⟩
    unfold sseq
    rw [hr]
    show SRes.more m (b e1) = _
    rw [h1]
    rfl
  | _ => exact False.elim p
theorem se_bindL {d : Den α} {f : α → SDen} (h : EE d e P) : SE (sbind d f) e P := by
  obtain ⟨m, e', x, h1, h2⟩ := h
  refine ⟨m, e', x, ?_, h2⟩
  unfold sbind
  rw [h1]
theorem se_bindR {d : Den α} {f : α → SDen} (h : EW false d e fun v e' => SE (f v) e' P) : SE (sbind d f) e P := by
  obtain ⟨m, e1, v, h1, _, m2, e', x, h3, h4⟩ := h
  refine ⟨m || m2, e', x, ?_, h4⟩
  unfold sbind
  rw [h1]
  show SRes.more m (f v e1) = _
  rw [h3]
  rfl
theorem se_if {t : Den Bool} (h : EW false t e fun k e' => BR k (SE a e' P) (SE b e' P)) : SE (sif t a b) e P := by
  refine se_bindR (ew_imp h fun k e' z => ?_)
  cases k with
  | true => exact z.1 rfl
  | false => exact z.2 rfl
theorem se_set {i : Nat} {d : Den Rv} (h : EE d e P) : SE (sset i d) e P := se_bindL h
theorem se_rt {d : Den Rv} (h : EE d e P) : SE (srt d) e P := se_bindL h
theorem se_drop {d : Den Rv} (h : EE d e P) : SE (sdrop d) e P := se_bindL h
theorem ee_bindL {d : Den α} {f : α → Den β} (h : EE d e P) : EE (dbind d f) e P := by
  obtain ⟨m, e', x, h1, h2⟩ := h
  refine ⟨m, e', x, ?_, h2⟩
  unfold dbind
  rw [h1]
theorem ee_bindR {d : Den α} {f : α → Den β} (h : EW false d e fun v e' => EE (f v) e' P) : EE (dbind d f) e P := by
  obtain ⟨m, e1, v, h1, _, m2, e', x, h3, h4⟩ := h
  refine ⟨m || m2, e', x, ?_, h4⟩
  unfold dbind
  rw [h1]
  show Res.more m (f v e1) = _
  rw [h3]
  rfl
theorem ee_imR {d : Den D} (h : EE d e P) : EE (imR d) e P := ee_bindL h
theorem ee_frz {d : Den Rv} (h : EE d e P) : EE (frz d) e P := ee_bindL h
theorem ee_call {n : Nat} {f : FDen} {ds : List D} (hf : FE f ds fun x => P x e) (hn : ds.length = n) : EE (dfnA n f (ds.map AR.im)) e P := by
  obtain ⟨m, x, h1, h2⟩ := hf
  refine ⟨m && !allIm (ds.map O.im), e, x, ?_, h2⟩
  unfold dfnA
  rw [if_pos (by rw [List.length_map]; exact hn), lend_im ds e]
  dsimp only
  rw [h1]
  dsimp only
  rw [unlend_im ds e]
  rfl
theorem fe_of {n : Nat} {s : SDen} {ds : List D} {Px : Xn → Prop} (h : SE s (env0 (ds.map O.im) n) fun x e' => ds.length ≤ e'.length ∧ Px x) : FE (fnden n s) ds Px := by
  obtain ⟨m, e', x, h1, h2, h3⟩ := h
  refine ⟨m, x, ?_, h3⟩
  unfold fnden
  rw [h1]
  dsimp only
  rw [outs_im ds e' h2]
  rfl
theorem fe_imp {f : FDen} {ds : List D} {P Q : Xn → Prop} (h : FE f ds P) (k : ∀ x, P x → Q x) : FE f ds Q := by
  obtain ⟨m, x, h1, h2⟩ := h
  exact ⟨m, x, h1, k x h2⟩
/-- while: at most k turns are left, and one of them raises -/
theorem se_while {t : Den Bool} {b : SDen} (Iv : Nat → Env → Prop) (hs : ∀ k e', Iv k e' → EW false t e' fun c e2 => c = true ∧ (SE b e2 P ∨ ∃ j, j < k ∧ SW b e2 ⟨Iv j, fun _ _ => False, fun _ => False, Iv j⟩)) :
    ∀ (f k : Nat) (e : Env), k < f → Iv k e → SE (swhile t b f) e P
  | 0, k, e, hk, h => absurd hk (Nat.not_lt_zero _)
  | f + 1, k, e, hk, h => by
    unfold swhile
    refine se_bindR (ew_imp (hs k e h) fun c e2 h2 => ?_)
    obtain ⟨rfl, h2⟩ := h2
    rcases h2 with ⟨m, e', x, h3, h4⟩ | ⟨j, hj, r, hr, p⟩
    · refine ⟨m, e', x, ?_, h4⟩
      show sturn (b e2) (swhile t b f) = _
      rw [h3]
      rfl
    · have ih : ∀ e3, Iv j e3 → SE (swhile t b f) e3 P := fun e3 h3 => se_while Iv hs f j e3 (by omega) h3
      have fin : ∀ m e3, Iv j e3 → b e2 = some (.nx m e3) ∨ b e2 = some (.ct m e3) → ∃ m e' x, sturn (b e2) (swhile t b f) = some (.er m e' x) ∧ P x e' := fun m e3 h3 hb => by
        obtain ⟨m2, e', x, h5, h6⟩ := ih e3 h3
        refine ⟨m || m2, e', x, ?_, h6⟩
        rcases hb with hb | hb <;>
        · rw [hb]
          show SRes.more m (swhile t b f e3) = _
          rw [h5]
          rfl
      show ∃ m e' x, sturn (b e2) (swhile t b f) = some (.er m e' x) ∧ P x e'
      cases r with
      | nx m e3 => exact fin m e3 p (.inl hr)
      | ct m e3 => exact fin m e3 p (.inr hr)
      | _ => exact False.elim p

/-! ### try -/
variable {A : Aft}
theorem w_try {s : SDen} {hs : List Hand} (h : SW s e A) : SW (stry s hs) e A := by
  obtain ⟨r, hr, p⟩ := h
  refine ⟨r, ?_, p⟩
  unfold stry
  rw [hr]
  cases r <;> first | rfl | exact False.elim p
def SC (x : Xn) (e : Env) (hs : List Hand) (A : Aft) : Prop := ∀ m, ∃ r, scatch x e m hs = some r ∧ SP' A r
theorem w_tryX {s : SDen} {hs : List Hand} (h : SE s e fun x e' => SC x e' hs A) : SW (stry s hs) e A := by
  obtain ⟨m, e', x, h1, h2⟩ := h
  obtain ⟨r, h3, h4⟩ := h2 m
  refine ⟨r, ?_, h4⟩
  unfold stry
  rw [h1]
  exact h3
/-- what a named clause's suite must leave -/
def clrP (i : Nat) (A : Aft) : Aft where
  N e := e.free i = true ∧ A.N (e.set i none)
  R r e := e.free i = true ∧ A.R r (e.set i none) ∧ ∀ o, r ≠ .bor i o
  B e := e.free i = true ∧ A.B (e.set i none)
  C e := e.free i = true ∧ A.C (e.set i none)
theorem clr_p {i : Nat} {r : SRes} (h : SP' (clrP i A) r) : ∃ r2, clr (some i) r = some r2 ∧ SP' A r2 := by
  have ce : ∀ e : Env, e.free i = true → clrE (some i) e = some (e.set i none) := fun e z => if_pos z
  cases r with
  | nx m e => exact ⟨.nx m (e.set i none), by show (clrE (some i) e).map _ = _; rw [ce e h.1]; rfl, h.2⟩
  | bk m e => exact ⟨.bk m (e.set i none), by show (clrE (some i) e).map _ = _; rw [ce e h.1]; rfl, h.2⟩
  | ct m e => exact ⟨.ct m (e.set i none), by show (clrE (some i) e).map _ = _; rw [ce e h.1]; rfl, h.2⟩
  | er m e x => exact False.elim h
  | rt m e rv =>
    obtain ⟨h1, h2, h3⟩ := h
    refine ⟨.rt m (e.set i none) rv, ?_, h2⟩
    cases rv with
    | im d => show (clrE (some i) e).map _ = _; rw [ce e h1]; rfl
    | new o => show (clrE (some i) e).map _ = _; rw [ce e h1]; rfl
    | bor j o =>
      show (if some i = some j then none else (clrE (some i) e).map fun e => SRes.rt m e (.bor j o)) = _
      rw [if_neg (fun z => h3 o (by cases z; rfl)), ce e h1]
      rfl
theorem sc_hitAs {x : Xn} {subs : List (Str × Bool)} {i : Nat} {s : Addr → Addr → Str → SDen} {hs : List Hand} (hl : subs.lookup x.cls = some true) (hf : e.free i = true) (hx : x.fs.isEmpty = false)
    (hu : ∀ a dd, (s a dd x.cls (e.set i (excSlot x a dd))).bind (clr (some i)) = (s 0 0 x.cls (e.set i (excSlot x 0 0))).bind (clr (some i))) (k : SW (s 0 0 x.cls) (e.set i (excSlot x 0 0)) (clrP i A)) : SC x e (⟨subs, some i, s⟩ :: hs) A := fun m => by
  obtain ⟨r, h1, h2⟩ := k
  obtain ⟨r1, hc, h5⟩ := clr_p h2
  obtain ⟨r2, h3, h4⟩ := SP'.more (m := m) h5
  refine ⟨r2, ?_, h4⟩
  unfold scatch
  rw [show (Hand.mk subs (some i) s).subs.lookup x.cls = some true from hl]
  show SRes.more m (if e.free i = true ∧ x.fs.isEmpty = false then uni (fun a dd => (s a dd x.cls (e.set i (excSlot x a dd))).bind (clr (some i))) else none) = some r2
  rw [if_pos ⟨hf, hx⟩, uni_of hu, h1]
  show SRes.more m (clr (some i) r) = _
  rw [hc]
  exact h3
theorem w_hitAs {x : Xn} {subs : List (Str × Bool)} {i : Nat} {s : Addr → Addr → Str → SDen} {hs : List Hand} {N : Env → Prop} {R : Rv → Env → Prop} {B C : Env → Prop} (hl : subs.lookup x.cls = some true) (hf : e.free i = true) (hx : x.fs.isEmpty = false)
    (hu : ∀ a dd, (s a dd x.cls (e.set i (excSlot x a dd))).bind (clr (some i)) = (s 0 0 x.cls (e.set i (excSlot x 0 0))).bind (clr (some i)))
    (k : SW (s 0 0 x.cls) (e.set i (excSlot x 0 0)) ⟨fun e => e.free i = true ∧ N (e.set i none), fun r e => e.free i = true ∧ R r (e.set i none) ∧ ∀ o, r ≠ .bor i o, fun e => e.free i = true ∧ B (e.set i none), fun e => e.free i = true ∧ C (e.set i none)⟩) : SC x e (⟨subs, some i, s⟩ :: hs) ⟨N, R, B, C⟩ := sc_hitAs (A := ⟨N, R, B, C⟩) hl hf hx hu k
theorem w_xf {c : Str} {a dd : Addr} {ns : List Str} {ds : List D} {i : Nat} {f : Str} {b : Bool} {d : D} {PD : D → Env → Prop} (h : lk e i = some (b, .im (.exc c a dd ns ds))) (hl : (ns.zip ds).lookup f = some d) (p : PD d e) : EW q (dxf a dd i f) e PD := by
  refine ⟨false, e, d, ?_, fun _ => rfl, p⟩
  unfold dxf
  have h' : e[i]? = some (some (b, .im (.exc c a dd ns ds))) := by
    unfold lk at h
    cases z : e[i]? with
    | none => rw [z] at h; cases h
    | some y => rw [z] at h; exact congrArg some h
  rw [h']
  dsimp only
  rw [if_pos ⟨rfl, rfl⟩, hl]
  rfl
theorem w_xi {c : Str} {a dd : Addr} {ns : List Str} {ds : List D} {i : Nat} {b k : Bool} {o : Option Bool} {PD : D → Env → Prop} (h : lk e i = some (b, .im (.exc c a dd ns ds))) (hl : o = some k) (p : PD (.bl k) e) : EW q (dxi a dd i o) e PD := by
  refine ⟨false, e, .bl k, ?_, fun _ => rfl, p⟩
  unfold dxi
  have h' : e[i]? = some (some (b, .im (.exc c a dd ns ds))) := by
    unfold lk at h
    cases z : e[i]? with
    | none => rw [z] at h; cases h
    | some y => rw [z] at h; exact congrArg some h
  rw [h']
  dsimp only
  rw [if_pos ⟨rfl, rfl⟩, hl]
  rfl
end
end DL

/-! DMS: x.insert(k, y). -/
namespace DL
open PySem PySem.Spec PyProof.Rows L2 Evl
section
variable {X : Cx} {W : WX} {a b : Expr} {pos p : Pos}
end
section
variable {e : Env} {N : Env → Prop} {R : Rv → Env → Prop} {B C : Env → Prop}
end
end DL

/-! DMT: a suite ends alike wherever its error lies. -/
namespace DL
open PySem PySem.Spec PyProof.Rows L2 Evl
def Res.mapE {α : Type} (h : Env → Env) : Res α → Res α
  | .ok m e a => .ok m (h e) a
  | .err m e x => .err m (h e) x
def Res.envOf {α : Type} : Res α → Env
  | .ok _ e _ => e
  | .err _ e _ => e
def SRes.mapE (h : Env → Env) : SRes → SRes
  | .nx m e => .nx m (h e)
  | .rt m e r => .rt m (h e) r
  | .bk m e => .bk m (h e)
  | .ct m e => .ct m (h e)
  | .er m e x => .er m (h e) x
def SRes.envOf : SRes → Env
  | .nx _ e => e
  | .rt _ e _ => e
  | .bk _ e => e
  | .ct _ e => e
  | .er _ e _ => e
section
variable {α β : Type} {i : Nat} {x : Xn}
/-- the error's slot is read by what asks for it alone -/
def UD (i : Nat) (x : Xn) (f : Addr → Addr → Den α) : Prop := ∀ e : Env, Env.free e i = true → ∃ g : Option (Res α), (∀ r, g = some r → Env.free r.envOf i = true) ∧ ∀ a dd, f a dd (e.set i (excSlot x a dd)) = g.map (Res.mapE fun e' => e'.set i (excSlot x a dd))
def US (i : Nat) (x : Xn) (f : Addr → Addr → SDen) : Prop := ∀ e : Env, Env.free e i = true → ∃ g : Option SRes, (∀ r, g = some r → Env.free r.envOf i = true) ∧ ∀ a dd, f a dd (e.set i (excSlot x a dd)) = g.map (SRes.mapE fun e' => e'.set i (excSlot x a dd))
theorem free_lt {e : Env} (h : Env.free e i = true) : i < e.length := by
  unfold Env.free at h
  by_cases z : i < e.length
  · exact z
  · rw [List.getElem?_eq_none (by omega)] at h; cases h
theorem free_set {e : Env} {j : Nat} {s : Slot} (h : Env.free e i = true) (hj : j ≠ i) : Env.free (e.set j s) i = true := by
  unfold Env.free at h ⊢
  rw [List.getElem?_set_ne hj]
  exact h
theorem ud_pure {v : α} : UD i x (fun _ _ => dpure v) := fun e he => ⟨some (.ok false e v), fun r z => by cases z; exact he, fun a dd => rfl⟩
theorem ud_lift {o : Option α} : UD i x (fun _ _ => dlift o) := fun e he => by
  cases o with
  | none => exact ⟨none, fun r z => (by cases z), fun a dd => rfl⟩
  | some v => exact ⟨some (.ok false e v), fun r z => by cases z; exact he, fun a dd => rfl⟩
theorem more_map {m : Bool} {h : Env → Env} {g : Option (Res β)} : Res.more (α := α) m (g.map (Res.mapE h)) = (Res.more (α := α) m g).map (Res.mapE h) := by
  cases g with
  | none => rfl
  | some r => cases r <;> rfl
theorem ud_bind {f : Addr → Addr → Den α} {k : Addr → Addr → α → Den β} (h : UD i x f) (h2 : ∀ v, UD i x fun a dd => k a dd v) : UD i x (fun a dd => dbind (f a dd) (k a dd)) := fun e he => by
  obtain ⟨g, g1, g2⟩ := h e he
  cases g with
  | none => exact ⟨none, fun r z => (by cases z), fun a dd => by dsimp only [dbind]; rw [g2]; rfl⟩
  | some r =>
    cases r with
    | err m e1 z => exact ⟨some (.err m e1 z), fun r q => by cases q; exact g1 _ rfl, fun a dd => by dsimp only [dbind]; rw [g2]; rfl⟩
    | ok m e1 v =>
      obtain ⟨g', k1, k2⟩ := h2 v e1 (g1 _ rfl)
      dsimp only at k2
      refine ⟨Res.more (α := α) m g', fun r q => ?_, fun a dd => ?_⟩
      · cases g' with
        | none => cases q
        | some r' => cases r' <;> (cases q; have z := k1 _ rfl; exact z)
      · dsimp only [dbind]
        rw [g2]
        show Res.more m (k a dd v (e1.set i (excSlot x a dd))) = _
        rw [k2, more_map]
theorem ud_dq {f : Addr → Addr → Den α} (h : UD i x f) : UD i x (fun a dd => dq (f a dd)) := fun e he => by
  obtain ⟨g, g1, g2⟩ := h e he
  cases g with
  | none => exact ⟨none, fun r z => (by cases z), fun a dd => by dsimp only [dq]; rw [g2]; rfl⟩
  | some r =>
    cases r with
    | err m e1 z => exact ⟨some (.err m e1 z), fun r q => by cases q; exact g1 _ rfl, fun a dd => by dsimp only [dq]; rw [g2]; rfl⟩
    | ok m e1 v =>
      cases m with
      | false => exact ⟨some (.ok false e1 v), fun r q => by cases q; exact g1 _ rfl, fun a dd => by dsimp only [dq]; rw [g2]; rfl⟩
      | true => exact ⟨none, fun r z => (by cases z), fun a dd => by dsimp only [dq]; rw [g2]; rfl⟩
theorem ud_var {j : Nat} (hj : j ≠ i) : UD i x (fun _ _ => dvar j) := fun e he => by
  have key : ∀ a dd, (e.set i (excSlot x a dd))[j]? = e[j]? := fun a dd => List.getElem?_set_ne (Ne.symm hj)
  have pick : ∀ a dd, dvar j (e.set i (excSlot x a dd)) = (dvar j e).map (Res.mapE fun e' => e'.set i (excSlot x a dd)) := fun a dd => by
    unfold dvar
    rw [key]
    cases e[j]? with
    | none => rfl
    | some s =>
      cases s with
      | none => rfl
      | some q =>
        obtain ⟨b, o⟩ := q
        cases o <;> rfl
  refine ⟨dvar j e, fun r z => ?_, pick⟩
  unfold dvar at z
  cases h : e[j]? with
  | none => rw [h] at z; cases z
  | some s =>
    rw [h] at z
    cases s with
    | none => cases z
    | some q =>
      obtain ⟨b, o⟩ := q
      cases o <;> (cases z; exact he)
theorem ud_xf {f : Str} : UD i x (fun a dd => dxf a dd i f) := fun e he => by
  refine ⟨(((x.fs.map (·.1)).zip (x.fs.map (·.2))).lookup f).map fun d => .ok false e d, fun r z => ?_, fun a dd => ?_⟩
  · obtain ⟨d, _, rfl⟩ := Option.map_eq_some_iff.mp z
    exact he
  · dsimp only [dxf]
    rw [List.getElem?_set_self (free_lt he)]
    dsimp only [excSlot]
    rw [if_pos ⟨rfl, rfl⟩, Option.map_map]
    rfl
theorem ud_xi {b : Option Bool} : UD i x (fun a dd => dxi a dd i b) := fun e he => by
  refine ⟨b.map fun b => .ok false e (.bl b), fun r z => ?_, fun a dd => ?_⟩
  · obtain ⟨d, _, rfl⟩ := Option.map_eq_some_iff.mp z
    exact he
  · dsimp only [dxi]
    rw [List.getElem?_set_self (free_lt he)]
    dsimp only [excSlot]
    rw [if_pos ⟨rfl, rfl⟩, Option.map_map]
    rfl
theorem ud_ite {c : Prop} [Decidable c] {f g : Addr → Addr → Den α} (h : UD i x f) (k : UD i x g) : UD i x (fun a dd => if c then f a dd else g a dd) := by
  by_cases hc : c
  · simp only [if_pos hc]; exact h
  · simp only [if_neg hc]; exact k
theorem ud_imR {f : Addr → Addr → Den D} (h : UD i x f) : UD i x (fun a dd => imR (f a dd)) := ud_bind h fun v => ud_pure
theorem ud_vw {f : Addr → Addr → Den Rv} (h : UD i x f) : UD i x (fun a dd => vw (f a dd)) := ud_bind h fun v => by cases v <;> exact ud_pure
/-- frozen, of a slot that holds what is frozen or is another one -/
theorem ud_frz {j : Nat} (hj : j ≠ i) : UD i x (fun _ _ => frz (dvar j)) := fun e he => by
  have key : ∀ a dd, (e.set i (excSlot x a dd))[j]? = e[j]? := fun a dd => List.getElem?_set_ne (Ne.symm hj)
  have pick : ∀ a dd, frz (dvar j) (e.set i (excSlot x a dd)) = (frz (dvar j) e).map (Res.mapE fun e' => e'.set i (excSlot x a dd)) := fun a dd => by
    unfold frz dbind dvar
    rw [key]
    cases h : e[j]? with
    | none => rfl
    | some s =>
      cases s with
      | none => rfl
      | some q =>
        obtain ⟨b, o⟩ := q
        cases o with
        | im d => rfl
        | _ =>
          dsimp only [Res.more]
          rw [key, h]
          dsimp only [Res.more, Option.map_some, Res.mapE]
          rw [List.set_comm _ _ (Ne.symm hj)]
  refine ⟨frz (dvar j) e, fun r z => ?_, pick⟩
  unfold frz dbind dvar at z
  cases h : e[j]? with
  | none => rw [h] at z; cases z
  | some s =>
    rw [h] at z
    cases s with
    | none => cases z
    | some q =>
      obtain ⟨b, o⟩ := q
      cases o with
      | im d => cases z; exact he
      | _ =>
        dsimp only [Res.more] at z
        rw [h] at z
        cases z
        exact free_set he hj
theorem ud_dcons {f : Addr → Addr → Den D} {g : Addr → Addr → Den (List D)} (h : UD i x f) (k : UD i x g) : UD i x (fun a dd => dcons (f a dd) (g a dd)) := ud_bind h fun v => ud_bind k fun vs => ud_pure
theorem ud_dconsV {f : Addr → Addr → Den D} {g : Addr → Addr → Den (List D)} (h : UD i x f) (k : UD i x g) : UD i x (fun a dd => dconsV (f a dd) (g a dd)) := ud_bind h fun v => ud_bind (ud_dq k) fun vs => ud_pure
theorem ud_dtup {f : Addr → Addr → Den (List D)} (h : UD i x f) : UD i x (fun a dd => dtup (f a dd)) := ud_bind h fun v => ud_lift
theorem ud_dlst {f : Addr → Addr → Den (List D)} (h : UD i x f) : UD i x (fun a dd => dlst (f a dd)) := ud_bind h fun v => ud_lift
theorem ud_dbin {f g : Addr → Addr → Den D} {o : D → D → Option D} (h : UD i x f) (k : UD i x g) : UD i x (fun a dd => dbin (f a dd) (g a dd) o) := ud_bind h fun v => ud_bind k fun vs => ud_lift
theorem ud_dcmp {f g : Addr → Addr → Den D} {o : D → D → Option Bool} (h : UD i x f) (k : UD i x g) : UD i x (fun a dd => dcmp (f a dd) (g a dd) o) := ud_bind h fun v => ud_bind (ud_dq k) fun vs => ud_lift
theorem ud_dtB {f : Addr → Addr → Den D} (h : UD i x f) : UD i x (fun a dd => dtB (f a dd)) := ud_bind h fun v => ud_lift
theorem ud_dtru {f : Addr → Addr → Den D} (h : UD i x f) : UD i x (fun a dd => dtru (f a dd)) := ud_bind h fun v => ud_lift
theorem ud_dnot {f : Addr → Addr → Den Bool} (h : UD i x f) : UD i x (fun a dd => dnot (f a dd)) := ud_bind h fun v => ud_pure
theorem ud_dand {f g : Addr → Addr → Den Bool} (h : UD i x f) (k : UD i x g) : UD i x (fun a dd => dand (f a dd) (g a dd)) := ud_bind h fun v => ud_ite k ud_pure
theorem ud_dor {f g : Addr → Addr → Den Bool} (h : UD i x f) (k : UD i x g) : UD i x (fun a dd => dor (f a dd) (g a dd)) := ud_bind h fun v => ud_ite ud_pure k
theorem ud_dnotV {f : Addr → Addr → Den D} (h : UD i x f) : UD i x (fun a dd => dnotV (f a dd)) := ud_bind (ud_dtB h) fun v => ud_pure
theorem ud_dandV {f g : Addr → Addr → Den D} (h : UD i x f) (k : UD i x g) : UD i x (fun a dd => dandV (f a dd) (g a dd)) := ud_bind (ud_dtB h) fun v => ud_ite k ud_pure
theorem ud_dorV {f g : Addr → Addr → Den D} (h : UD i x f) (k : UD i x g) : UD i x (fun a dd => dorV (f a dd) (g a dd)) := ud_bind (ud_dtB h) fun v => ud_ite ud_pure k
theorem ud_dif {t : Addr → Addr → Den Bool} {f g : Addr → Addr → Den α} (ht : UD i x t) (h : UD i x f) (k : UD i x g) : UD i x (fun a dd => dif (t a dd) (f a dd) (g a dd)) := ud_bind ht fun v => ud_ite h k
/-! statements -/
theorem smore_map {m : Bool} {h : Env → Env} {g : Option SRes} : SRes.more m (g.map (SRes.mapE h)) = (SRes.more m g).map (SRes.mapE h) := by
  cases g with
  | none => rfl
  | some r => cases r <;> rfl
theorem smore_env {m : Bool} {g : Option SRes} {r : SRes} (h : SRes.more m g = some r) (k : ∀ r, g = some r → Env.free r.envOf i = true) : Env.free r.envOf i = true := by
  cases g with
  | none => cases h
  | some q => cases q <;> (cases h; have z := k _ rfl; exact z)
theorem us_next : US i x (fun _ _ => snext) := fun e he => ⟨some (.nx false e), fun r z => by cases z; exact he, fun a dd => rfl⟩
theorem us_bind {f : Addr → Addr → Den α} {k : Addr → Addr → α → SDen} (h : UD i x f) (h2 : ∀ v, US i x fun a dd => k a dd v) : US i x (fun a dd => sbind (f a dd) (k a dd)) := fun e he => by
  obtain ⟨g, g1, g2⟩ := h e he
  cases g with
  | none => exact ⟨none, fun r z => (by cases z), fun a dd => by dsimp only [sbind]; rw [g2]; rfl⟩
  | some r =>
    cases r with
    | err m e1 z => exact ⟨some (.er m e1 z), fun r q => by cases q; exact g1 _ rfl, fun a dd => by dsimp only [sbind]; rw [g2]; rfl⟩
    | ok m e1 v =>
      obtain ⟨g', k1, k2⟩ := h2 v e1 (g1 _ rfl)
      dsimp only at k2
      refine ⟨SRes.more m g', fun r q => smore_env q k1, fun a dd => ?_⟩
      dsimp only [sbind]
      rw [g2]
      show SRes.more m (k a dd v (e1.set i (excSlot x a dd))) = _
      rw [k2, smore_map]
theorem us_seq {f g : Addr → Addr → SDen} (h : US i x f) (k : US i x g) : US i x (fun a dd => sseq (f a dd) (g a dd)) := fun e he => by
  obtain ⟨q, q1, q2⟩ := h e he
  cases q with
  | none => exact ⟨none, fun r z => (by cases z), fun a dd => by dsimp only [sseq]; rw [q2]; rfl⟩
  | some r =>
    cases r with
    | nx m e1 =>
      obtain ⟨g', k1, k2⟩ := k e1 (q1 _ rfl)
      refine ⟨SRes.more m g', fun r q => smore_env q k1, fun a dd => ?_⟩
      dsimp only [sseq]
      rw [q2]
      show SRes.more m (g a dd (e1.set i (excSlot x a dd))) = _
      rw [k2, smore_map]
    | rt m e1 v => exact ⟨some (.rt m e1 v), fun r z => by cases z; exact q1 _ rfl, fun a dd => by dsimp only [sseq]; rw [q2]; rfl⟩
    | bk m e1 => exact ⟨some (.bk m e1), fun r z => by cases z; exact q1 _ rfl, fun a dd => by dsimp only [sseq]; rw [q2]; rfl⟩
    | ct m e1 => exact ⟨some (.ct m e1), fun r z => by cases z; exact q1 _ rfl, fun a dd => by dsimp only [sseq]; rw [q2]; rfl⟩
    | er m e1 v => exact ⟨some (.er m e1 v), fun r z => by cases z; exact q1 _ rfl, fun a dd => by dsimp only [sseq]; rw [q2]; rfl⟩
theorem us_ite {c : Prop} [Decidable c] {f g : Addr → Addr → SDen} (h : US i x f) (k : US i x g) : US i x (fun a dd => if c then f a dd else g a dd) := by
  by_cases hc : c
  · simp only [if_pos hc]; exact h
  · simp only [if_neg hc]; exact k
theorem us_if {t : Addr → Addr → Den Bool} {f g : Addr → Addr → SDen} (ht : UD i x t) (h : US i x f) (k : US i x g) : US i x (fun a dd => sif (t a dd) (f a dd) (g a dd)) := us_bind ht fun v => us_ite h k
theorem us_rt {f : Addr → Addr → Den Rv} (h : UD i x f) : US i x (fun a dd => srt (f a dd)) := us_bind h fun v e he => ⟨some (.rt false e v), fun r z => by cases z; exact he, fun a dd => rfl⟩
theorem us_drop {f : Addr → Addr → Den Rv} (h : UD i x f) : US i x (fun a dd => sdrop (f a dd)) := us_bind h fun v => us_next
theorem us_bk : US i x (fun _ _ => fun e => some (.bk false e)) := fun e he => ⟨some (.bk false e), fun r z => by cases z; exact he, fun a dd => rfl⟩
theorem us_ct : US i x (fun _ _ => fun e => some (.ct false e)) := fun e he => ⟨some (.ct false e), fun r z => by cases z; exact he, fun a dd => rfl⟩
theorem us_rtN : US i x (fun _ _ => fun e => some (.rt false e (.im .non))) := fun e he => ⟨some (.rt false e (.im .non)), fun r z => by cases z; exact he, fun a dd => rfl⟩
/-- x = e, frozen -/
theorem us_setI {j : Nat} (hj : j ≠ i) {f : Addr → Addr → Den D} (h : UD i x f) : US i x (fun a dd => sset j (imR (f a dd))) := fun e he => by
  obtain ⟨g, g1, g2⟩ := ud_imR h e he
  dsimp only at g2
  have fr : ∀ (e : Env) a dd, Env.free (e.set i (excSlot x a dd)) j = Env.free e j := fun e a dd => by
    unfold Env.free
    rw [List.getElem?_set_ne (Ne.symm hj)]
  have im : ∀ r, g = some r → ∀ m e' v, r = .ok m e' v → ∃ d, v = .im d := fun r hr m e' v hv => by
    subst hv
    have z := g2 0 0
    rw [hr] at z
    dsimp only [imR, dbind] at z
    cases q : f 0 0 (e.set i (excSlot x 0 0)) with
    | none => rw [q] at z; cases z
    | some w =>
      rw [q] at z
      cases w with
      | err m1 e1 y => cases z
      | ok m1 e1 d =>
        have z2 : some (Res.ok (m1 || false) e1 (Rv.im d)) = some (Res.ok m (e'.set i (excSlot x 0 0)) v) := z
        injection z2 with z2
        injection z2 with z3 z4 z5
        exact ⟨d, z5.symm⟩
  cases g with
  | none => exact ⟨none, fun r z => (by cases z), fun a dd => by dsimp only [sset, sbind]; rw [g2]; rfl⟩
  | some r =>
    cases r with
    | err m e1 z => exact ⟨some (.er m e1 z), fun r q => by cases q; exact g1 _ rfl, fun a dd => by dsimp only [sset, sbind]; rw [g2]; rfl⟩
    | ok m e1 v =>
      obtain ⟨d, rfl⟩ := im _ rfl _ _ _ rfl
      by_cases hf : Env.free e1 j = true
      · refine ⟨some (.nx (m || false) (e1.set j (some (false, .im d)))), fun r q => by cases q; exact free_set (g1 _ rfl) hj, fun a dd => ?_⟩
        dsimp only [sset, sbind]
        rw [g2]
        dsimp only [Option.map_some, Res.mapE]
        rw [fr, if_pos hf]
        dsimp only [SRes.more, SRes.mapE]
        rw [List.set_comm _ _ (Ne.symm hj)]
      · refine ⟨none, fun r z => (by cases z), fun a dd => ?_⟩
        dsimp only [sset, sbind]
        rw [g2]
        dsimp only [Option.map_some, Res.mapE]
        rw [fr, if_neg hf]
        rfl
theorem us_uni {f : Addr → Addr → SDen} {e : Env} (h : US i x f) (he : Env.free e i = true) : ∀ a dd, (f a dd (e.set i (excSlot x a dd))).bind (clr (some i)) = (f 0 0 (e.set i (excSlot x 0 0))).bind (clr (some i)) := by
  obtain ⟨g, g1, g2⟩ := h e he
  have key : ∀ a dd, (f a dd (e.set i (excSlot x a dd))).bind (clr (some i)) = g.bind fun r => clr (some i) r := fun a dd => by
    rw [g2]
    cases g with
    | none => rfl
    | some r =>
      have hf := g1 _ rfl
      have hlt := free_lt hf
      have ce : clrE (some i) (r.envOf.set i (excSlot x a dd)) = clrE (some i) r.envOf := by
        have z : Env.free (r.envOf.set i (excSlot x a dd)) i = true := by
          unfold Env.free
          rw [List.getElem?_set_self hlt]
          rfl
        show (if _ then _ else _) = (if _ then _ else _)
        rw [if_pos z, if_pos hf, List.set_set]
      cases r with
      | nx m e1 => show (clrE (some i) (e1.set i (excSlot x a dd))).map _ = (clrE (some i) e1).map _; rw [show clrE (some i) (e1.set i (excSlot x a dd)) = clrE (some i) e1 from ce]
      | bk m e1 => show (clrE (some i) (e1.set i (excSlot x a dd))).map _ = (clrE (some i) e1).map _; rw [show clrE (some i) (e1.set i (excSlot x a dd)) = clrE (some i) e1 from ce]
      | ct m e1 => show (clrE (some i) (e1.set i (excSlot x a dd))).map _ = (clrE (some i) e1).map _; rw [show clrE (some i) (e1.set i (excSlot x a dd)) = clrE (some i) e1 from ce]
      | er m e1 y => rfl
      | rt m e1 v =>
        cases v with
        | im d => show (clrE (some i) (e1.set i (excSlot x a dd))).map _ = (clrE (some i) e1).map _; rw [show clrE (some i) (e1.set i (excSlot x a dd)) = clrE (some i) e1 from ce]
        | new d => show (clrE (some i) (e1.set i (excSlot x a dd))).map _ = (clrE (some i) e1).map _; rw [show clrE (some i) (e1.set i (excSlot x a dd)) = clrE (some i) e1 from ce]
        | bor j o =>
          show (if some i = some j then none else (clrE (some i) (e1.set i (excSlot x a dd))).map _) = (if some i = some j then none else (clrE (some i) e1).map _)
          rw [show clrE (some i) (e1.set i (excSlot x a dd)) = clrE (some i) e1 from ce]
  intro a dd
  rw [key, key]
end
end DL

/-! DMU: dicts: their truth, their length, their displays. -/
namespace DL
open PySem PySem.Spec PyProof.Rows L2 Evl
section
variable {prog : Program} {w : World} {A : Around} {E : Value → Shared → Prop} {s : Shared} {d : Addr} {es : Array DictEntry} {ep : Nat}
end
section
variable {X : Cx} {pins : List (Addr × Obj)} {σ : L2.St} {H : Hp} {s : Shared} {a : Addr}
end
section
variable {X : Cx} {W : WX} {a : Expr} {pos : Pos}
end
end DL

/-! DMV: dict displays with names as keys. -/
namespace DL
open PySem PySem.Spec PyProof.Rows L2 Evl
def pairK (ks : List Str) (vs : List V) : List (V × V) := (ks.zip vs).map fun p => (V.str p.1, p.2)
structure DPP (X : Cx) (W : WX) (pos : Pos) (keys : List (Option Expr)) (values : List Expr) (ks : List Str) (den : Den (List O)) : Prop where
  all : keys.all (·.isSome) = true
  l1 : keys.length = values.length
  l2 : keys.length = ks.length
  run : ∃ trs, PPs X pos keys values trs ∧ ∀ c F σ e ts H (Q : List V → Hp → Prop) (Q' : List (V × V) → Hp → Prop), RE X.B c F H σ e ts → At relT X.B W den c F σ e ts H Q → (∀ vs H', vs.length = ks.length → Q vs H' → Q' (pairK ks vs) H') → tPairs trs σ H Q'
section
variable {X : Cx} {W : WX} {pos : Pos}
end
end DL

/-! DMW: dicts as lists of pairs; steps through places. -/
namespace DL
open PySem PySem.Spec PyProof.Rows L2 Evl
/-! ### lists of pairs -/
section
variable {κ β γ : Type} [DecidableEq κ]
def getA : List (κ × β) → κ → Option β
  | [], _ => none
  | p :: l, k => if p.1 = k then some p.2 else getA l k
def putA : List (κ × β) → κ → β → List (κ × β)
  | [], k, v => [(k, v)]
  | p :: l, k, v => if p.1 = k then (p.1, v) :: l else p :: putA l k v
def ixA (l : List (κ × β)) (k : κ) : Option Nat := l.findIdx? fun p => decide (p.1 = k)
theorem ixA_cons (p : κ × β) (l : List (κ × β)) (k : κ) : ixA (p :: l) k = if p.1 = k then some 0 else (ixA l k).map (· + 1) := by
  unfold ixA
  rw [List.findIdx?_cons]
  by_cases h : p.1 = k
  · rw [if_pos h, if_pos (decide_eq_true h)]
  · rw [if_neg h, decide_eq_false h]
    rfl
theorem getA_ix (f : β → γ) : ∀ (l : List (κ × β)) (k : κ), ((ixA l k).bind fun n => (l.map fun p => f p.2)[n]?) = (getA l k).map f
  | [], k => rfl
  | p :: l, k => by
    rw [ixA_cons, getA]
    by_cases h : p.1 = k
    · rw [if_pos h, if_pos h]
      rfl
    · rw [if_neg h, if_neg h, ← getA_ix f l k]
      cases ixA l k with
      | none => rfl
      | some n => rfl
theorem putA_ks (f : κ → γ) : ∀ (l : List (κ × β)) (k : κ) (v : β), (putA l k v).map (fun p => f p.1) = match ixA l k with
    | some _ => l.map fun p => f p.1
    | none => (l.map fun p => f p.1) ++ [f k]
  | [], k, v => rfl
  | p :: l, k, v => by
    rw [ixA_cons, putA]
    by_cases h : p.1 = k
    · rw [if_pos h, if_pos h]; rfl
    · rw [if_neg h, if_neg h, List.map_cons, putA_ks f l k v]
      cases ixA l k <;> rfl
theorem putA_vs (f : β → γ) : ∀ (l : List (κ × β)) (k : κ) (v : β), (putA l k v).map (fun p => f p.2) = match ixA l k with
    | some n => (l.map fun p => f p.2).set n (f v)
    | none => (l.map fun p => f p.2) ++ [f v]
  | [], k, v => rfl
  | p :: l, k, v => by
    rw [ixA_cons, putA]
    by_cases h : p.1 = k
    · rw [if_pos h, if_pos h]; rfl
    · rw [if_neg h, if_neg h, List.map_cons, putA_vs f l k v]
      cases ixA l k <;> rfl
end
/-! ### dicts of pairs -/
/-- keys that a dict tells apart -/
structure Kg {κ : Type} (g : κ → D) : Prop where
  ok : ∀ (l : List D) k, (∀ d ∈ l, ∃ j, d = g j) → okKey l (g k) = true
  inj : ∀ a b, kyOf (g a) = kyOf (g b) → a = b
section
variable {κ β : Type} [DecidableEq κ] {g : κ → D} {h : β → O}
def dcA (g : κ → D) (h : β → O) (l : List (κ × β)) : O := .dct (l.map fun p => g p.1) (l.map fun p => h p.2)
theorem Kg.okA (K : Kg g) (l : List (κ × β)) (k : κ) : okKey (l.map fun p => g p.1) (g k) = true := K.ok _ k fun d m => by
  obtain ⟨p, _, rfl⟩ := List.mem_map.mp m
  exact ⟨p.1, rfl⟩
theorem Kg.kix (K : Kg g) (l : List (κ × β)) (k : κ) : DL.kix (l.map fun p => g p.1) (g k) = ixA l k := by
  unfold DL.kix ixA
  rw [List.findIdx?_map]
  congr 1
  funext p
  show decide (kyOf (g p.1) = kyOf (g k)) = _
  by_cases e : p.1 = k
  · rw [decide_eq_true e, e, decide_eq_true rfl]
  · rw [decide_eq_false e, decide_eq_false fun z => e (K.inj _ _ z)]
theorem Kg.get (K : Kg g) (l : List (κ × β)) (k : κ) (x : O) : getOX (dcA g h l) (g k) x = some (((getA l k).map h).getD x) := by
  unfold dcA
  show (if okKey _ _ = true then some (((DL.kix _ _).bind fun n => _).getD _) else none) = _
  rw [if_pos (K.okA l k), K.kix, getA_ix h]
theorem Kg.put (K : Kg g) (l : List (κ × β)) (k : κ) (v : β) : O.dct (putKs (l.map fun p => g p.1) (g k)) (putVs (l.map fun p => g p.1) (g k) (l.map fun p => h p.2) (h v)) = dcA g h (putA l k v) := by
  unfold dcA putKs putVs
  rw [K.kix, putA_ks g l k v, putA_vs h l k v]
  all_goals (cases ixA l k <;> rfl)
end
/-! ### places -/
section
variable {κ β : Type} [DecidableEq κ] {g : κ → D} {h : β → O} {q : Bool} {e : Env} {PP : Pl → Env → Prop} {PR : Rv → Env → Prop} {N : Env → Prop} {R : Rv → Env → Prop} {B C : Env → Prop}
end
end DL

/-! DMX: what is frozen compared with what may change things while it is found. -/
namespace DL
open PySem PySem.Spec PyProof.Rows L2 Evl
section
variable {X : Cx} {W : WX} {ex a b : Expr} {pos : Pos} {da db : Den D}
end
end DL

/-! DMY: for over enumerate(a list). -/
namespace DL
open PySem PySem.Spec PyProof.Rows L2 Evl
section
variable {c : Ctx} {F H : Hp} {σ : L2.St} {e : Env} {ts : List (V × O)} {W : WX}
theorem PostS.from {K : KB} {D : Ends} {F1 H1 : Hp} {r : SRes} (ef : Ex F F1) (eh : Ex H H1) (post : PostS K W D c F ts H r) : PostS K W D c F1 ts H1 r := by
  cases r with
  | nx m e5 => exact fun F' H' σ' ef' eh' R' => post F' H' σ' (ef.trans ef') (fun z => eh.trans (eh' z)) R'
  | rt m e5 rv => exact fun F' H' σ' v' ef' eh' R' => post F' H' σ' v' (ef.trans ef') (fun z => eh.trans (eh' z)) R'
  | bk m e5 => exact fun F' H' σ' ef' eh' R' => post F' H' σ' (ef.trans ef') (fun z => eh.trans (eh' z)) R'
  | ct m e5 => exact fun F' H' σ' ef' eh' R' => post F' H' σ' (ef.trans ef') (fun z => eh.trans (eh' z)) R'
  | er m e5 x => exact fun F' H' σ' cls d ef' eh' R' hx => post F' H' σ' cls d (ef.trans ef') (fun z => eh.trans (eh' z)) R' hx
end
section
variable {X : Cx} {W : WX} {iter : Expr} {elts : List Expr} {kk : Nat} {tpos p p2 : Pos} {body : List Stmt} {pos : Pos} {it : Den Rv} {bind : D → Env → Option Env} {sl : List Nat} {db : SDen}
end
section
variable {e : Env} {N : Env → Prop} {R : Rv → Env → Prop} {B C : Env → Prop}
end
end DL

/-! DMZ: `is` between bools; for over the values of a dict that is empty. -/
namespace DL
open PySem PySem.Spec PyProof.Rows L2 Evl
section
variable {X : Cx} {W : WX} {tg a : Expr} {body : List Stmt} {pos p apos cpos : Pos} {bind : D → Env → Option Env} {sl : List Nat} {db : SDen} {i : Nat} {C : Addr} {f : Str}
end
section
variable {e : Env} {N : Env → Prop} {R : Rv → Env → Prop} {B C : Env → Prop}
end
end DL

/-! DNA: P.pop(k, x) of a key that may be absent, for dicts with plain keys. -/
namespace DL
open PySem PySem.Spec PyProof.Rows L2 Evl
section
variable {X : Cx} {W : WX} {o ex f : Expr} {apos cpos : Pos}
end
section
variable {κ β : Type} [DecidableEq κ] {g : κ → D} {h : β → O} {e : Env} {PR : Rv → Env → Prop}
end
end DL

/-! DNB: text.join(list of texts). -/
namespace DL
open PySem PySem.Spec PyProof.Rows L2 Evl
def strsD : List D → Option (List Str)
  | [] => some []
  | .str x :: ds => (strsD ds).map (x :: ·)
  | _ :: _ => none
def joinS (a : Str) : D → Option D
  | .lst ds => (strsD ds).bind fun ys => if (ys.map (·.length)).sum + ys.length * a.length ≤ 16777216 then some (.str (Txt.join a ys)) else none
  | _ => none
theorem strs_reps {K : KB} {H : Hp} : ∀ {ds : List D} {ys : List Str} {xs : List V}, strsD ds = some ys → Reps K H ds xs → xs = ys.map V.str
  | [], ys, xs, h, r => by cases h; exact r
  | .str x :: ds, ys, xs, h, r => by
    obtain ⟨zs, hz, rfl⟩ := Option.map_eq_some_iff.mp h
    obtain ⟨v, l, rfl, h1, h2⟩ := r
    rw [strs_reps hz h2, show v = V.str x from h1]
    rfl
  | .non :: _, _, _, h, _ => by cases h
  | .bl _ :: _, _, _, h, _ => by cases h
  | .int _ :: _, _, _, h, _ => by cases h
  | .ty _ :: _, _, _, h, _ => by cases h
  | .any :: _, _, _, h, _ => by cases h
  | .adr _ :: _, _, _, h, _ => by cases h
  | .exc _ _ _ _ _ :: _, _, _, h, _ => by cases h
  | .tup _ :: _, _, _, h, _ => by cases h
  | .wtp _ :: _, _, _, h, _ => by cases h
  | .lst _ :: _, _, _, h, _ => by cases h
  | .scr _ :: _, _, _, h, _ => by cases h
  | .dct _ _ :: _, _, _, h, _ => by cases h
  | .ins _ _ _ :: _, _, _, h, _ => by cases h
def djoin (da db : Den D) : Den D := dbind da fun x => match x with
  | .str a => dbind db fun y => dlift (joinS a y)
  | _ => fun _ => none
section
variable {X : Cx} {W : WX} {o ex : Expr} {apos cpos : Pos}
theorem di_join {da db : Den D} (ha : DI X W o da) (hb : DV X W ex db)
    (hpe : ∀ {to : TE} {t : TA}, PE X o to → PA X [ex] t → PE X (.Call (.Attribute o "join" apos) [ex] [] cpos) (tBM X.K "str" (fun x xs H Q => ∃ a p, ∃ ys : List Str, x = V.str a ∧ xs = [V.ref p] ∧ (SqL X.K H p (ys.map V.str) ∨ SqT X.K H p (ys.map V.str)) ∧ (ys.map (·.length)).sum + ys.length * a.length ≤ 16777216 ∧ Q (.str (Txt.join a ys)) H) to t))
    (hs : starEach [ex] X.env = [(false, eval ex X.env)] := by rfl) : DI X W (.Call (.Attribute o "join" apos) [ex] [] cpos) (djoin da db) := ⟨pe_weak (hpe ha.run (pa_cons hb.run pa_nil hs)) fun σ H Q q => by
  obtain ⟨c, F, e, ts, R, q⟩ := q
  refine ⟨c, F, e, ts, R, q.bind (rel := relI) fun F1 H1 e1 x v ef hr q1 => ?_⟩
  cases x with
  | str a =>
    have ev : v = V.str a := hr.2
    subst ev
    refine ⟨rfl, c, F1, e1, ts, hr.1, q1.bind (rel := relV) fun F2 H2 e2 y u ef2 hr3 q2 => ?_⟩
    obtain ⟨d, hd, k⟩ := q2.lift
    unfold joinS at hd
    split at hd
    · rename_i ds
      obtain ⟨ys, hys, hd⟩ := Option.bind_eq_some_iff.mp hd
      split at hd
      · rename_i hz
        cases hd
        obtain ⟨p, xs, rfl, h1, h2⟩ := hr3.2
        rw [strs_reps hys h2] at h1
        exact ⟨a, p, ys, rfl, rfl, .inl (SqL.of h1), hz, k F2 H2 _ (Ex.refl _) (Ex.refl _) ⟨hr3.1, rfl⟩⟩
      · cases hd
    · cases hd
  | _ =>
    obtain ⟨r, hr2, _⟩ := q1
    cases hr2⟩
end
section
variable {e : Env} {q : Bool} {PD : D → Env → Prop}
theorem w_join {da db : Den D} {a : Str} (p : EW q da e fun x e1 => x = .str a ∧ EW q db e1 fun y e2 => OP (joinS a y) fun z => PD z e2) : EW q (djoin da db) e PD := by
  unfold djoin
  rw [ew_bind]
  refine ew_imp p fun x e1 h => ?_
  obtain ⟨rfl, h⟩ := h
  dsimp only
  rw [ew_bind]
  exact ew_imp h fun y e2 h => ew_lift.mpr h
theorem strs_map {γ : Type} (g : γ → Str) : ∀ l : List γ, strsD (l.map fun x => D.str (g x)) = some (l.map g)
  | [] => rfl
  | a :: l => by
    show (strsD (l.map fun x => D.str (g x))).map _ = _
    rw [strs_map g l]
    rfl
theorem op_join {γ : Type} {a : Str} {g : γ → Str} {l : List γ} {P : D → Prop} (hz : ((l.map g).map (·.length)).sum + (l.map g).length * a.length ≤ 16777216) (p : P (.str (Txt.join a (l.map g)))) : OP (joinS a (.lst (l.map fun x => D.str (g x)))) P :=
  ⟨_, by unfold joinS; dsimp only; rw [strs_map, Option.bind_some, if_pos hz], p⟩
end
end DL

/-! DNC: dicts with tuple keys whose one object is told exactly; their keys, walked. -/
namespace DL
open PySem PySem.Spec PyProof.Rows L2 Evl
section
variable {X : Cx} {pins : List (Addr × Obj)} {σ : L2.St} {H : Hp} {s : Shared}
end
section
variable {X : Cx} {tg e : Expr} {td : TE}
end
end DL

/-! DND: attributes as targets; range with a step of -1; dict(d). -/
namespace DL
open PySem PySem.Spec PyProof.Rows L2 Evl
/-! ### o.f as a target -/
section
variable {X : Cx} {W : WX} {ex : Expr} {pos : Pos}
end
/-! ### range(a, b, -1) -/
section
variable {X : Cx} {W : WX} {tg a b c : Expr} {p p2 : Pos} {as : Den (List D)}
end
/-! ### dict(d), the keys tuples -/
section
variable {prog : Program} {w : World} {K : Type} [DecidableEq K] {knd : HeapKind prog w K} {A : Around} {E : Value → Shared → Prop} {s : Shared}
end
/-- the hash of a key of ints -/
def hI (ks : List Int) : Int := PySem.reduceHash (Builtin.Tuple.tupleHashOf (ks.map hashInt))
section
variable {X : Cx} {W : WX} {a : Expr} {pos p : Pos} {x : Str}
end
section
variable {e : Env} {q : Bool} {PR : Rv → Env → Prop}
end
end DL

/-! DNE: steps: P.append(x), P.pop(), P[i] = x of lists at places; several fields at once. -/
namespace DL
open PySem PySem.Spec PyProof.Rows L2 Evl
section
variable {e : Env} {N : Env → Prop} {R : Rv → Env → Prop} {B C : Env → Prop} {PR : Rv → Env → Prop}
/-! ### suites of except that end alike wherever the error lies -/
section
variable {α β : Type} {i : Nat} {x : Xn}
theorem ud_ow {j : Nat} (hj : j ≠ i) : UD i x (fun _ _ => ow (dvar j)) := ud_bind (ud_var hj) fun v => by cases v <;> exact ud_pure
theorem ud_imD {f : Addr → Addr → Den O} (h : UD i x f) : UD i x (fun a dd => imD (f a dd)) := ud_bind h fun v => ud_lift
theorem ud_fl {f : Addr → Addr → Den O} (h : UD i x f) : UD i x (fun a dd => fl (f a dd)) := ud_bind h fun v => ud_pure
theorem ud_dixO {f : Addr → Addr → Den O} {g : Addr → Addr → Den D} (h : UD i x f) (k : UD i x g) : UD i x (fun a dd => dixO (f a dd) (g a dd)) := ud_bind h fun v => ud_bind (ud_dq k) fun vs => ud_lift
theorem ud_dixX {f : Addr → Addr → Den O} {g : Addr → Addr → Den D} (h : UD i x f) (k : UD i x g) : UD i x (fun a dd => dixX (f a dd) (g a dd)) := ud_bind h fun v => ud_bind (ud_dq k) fun vs => ud_lift
def borRes (e : Env) (j : Nat) (b : Bool) (o : O) : Option FRes → Option (Res Rv)
  | some (.ok m [o'] (.im d)) => some (.ok (m && !allIm [o]) (e.set j (some (b, o'))) (.im d))
  | some (.ok m [o'] (.new p)) => some (.ok (m && !allIm [o]) (e.set j (some (b, o'))) (.new p))
  | some (.err m [o'] x) => some (.err (m && !allIm [o]) (e.set j (some (b, o'))) x)
  | _ => none
theorem unlend_two {e : Env} {j : Nat} {b : Bool} {os : List O} (hj : j < e.length) : unlend [some (j, b)] os (e.set j none) = match os with
    | [o'] => some (e.set j (some (b, o')))
    | _ => none := by
  cases os with
  | nil => rfl
  | cons o' r =>
    show (match (e.set j none)[j]? with
      | some none => unlend [] r ((e.set j none).set j (some (b, o')))
      | _ => none) = _
    rw [List.getElem?_set_self hj]
    dsimp only
    rw [List.set_set]
    cases r <;> rfl
theorem dfnA_bor {n j : Nat} {f : FDen} {e : Env} {b : Bool} {o : O} (h : e[j]? = some (some (b, o))) : dfnA n f [.bor j] e = if 1 = n then borRes e j b o (f [o]) else none := by
  have hj : j < e.length := (List.getElem?_eq_some_iff.mp h).1
  unfold dfnA
  by_cases hn : 1 = n
  · rw [if_pos hn, if_pos (show [AR.bor j].length = n from hn)]
    have hl : lend [.bor j] e = some ([o], [some (j, b)], e.set j none) := by
      show (match lend [] e with
        | some r => match r.2.2[j]? with
          | some (some (b, o)) => some (o :: r.1, some (j, b) :: r.2.1, r.2.2.set j none)
          | _ => none
        | none => none) = _
      dsimp only [lend]
      rw [h]
    rw [hl]
    dsimp only
    cases hf : f [o] with
    | none => rfl
    | some r =>
      cases r with
      | err m os x =>
        dsimp only
        rw [unlend_two hj]
        unfold borRes
        cases os with
        | nil => rfl
        | cons o' r => cases r <;> rfl
      | ok m os v =>
        cases v <;>
        · dsimp only
          rw [unlend_two hj]
          unfold borRes
          cases os with
          | nil => rfl
          | cons o' r => cases r <;> rfl
  · rw [if_neg hn, if_neg (show ¬ [AR.bor j].length = n from hn)]
theorem borRes_map {e : Env} {i j : Nat} {b : Bool} {o : O} {s : Slot} {r : Option FRes} (hj : j ≠ i) : borRes (e.set i s) j b o r = (borRes e j b o r).map (Res.mapE fun e' => e'.set i s) := by
  have c : ∀ o', (e.set i s).set j (some (b, o')) = (e.set j (some (b, o'))).set i s := fun o' => List.set_comm _ _ (Ne.symm hj)
  cases r with
  | none => rfl
  | some r =>
    cases r with
    | err m os x =>
      cases os with
      | nil => rfl
      | cons o' r =>
        cases r with
        | nil => unfold borRes; dsimp only [Option.map_some, Res.mapE]; rw [c]
        | cons _ _ => rfl
    | ok m os v =>
      cases os with
      | nil => cases v <;> rfl
      | cons o' r =>
        cases r with
        | nil => cases v <;> (unfold borRes; dsimp only [Option.map_some, Res.mapE]; rw [c])
        | cons _ _ => cases v <;> rfl
theorem borRes_free {e : Env} {i j : Nat} {b : Bool} {o : O} {r : Option FRes} {z : Res Rv} (he : Env.free e i = true) (hj : j ≠ i) (h : borRes e j b o r = some z) : Env.free z.envOf i = true := by
  unfold borRes at h
  split at h <;> first | (cases h; exact free_set he hj) | cases h
theorem ud_bindV {f : Addr → Addr → Den α} {k : Addr → Addr → α → Den β} {P : α → Prop} (h : UD i x f) (hp : ∀ e m e' v, f 0 0 e = some (.ok m e' v) → P v) (h2 : ∀ v, P v → UD i x fun a dd => k a dd v) : UD i x (fun a dd => dbind (f a dd) (k a dd)) := fun e he => by
  obtain ⟨g, g1, g2⟩ := h e he
  cases g with
  | none => exact ⟨none, fun r z => (by cases z), fun a dd => by dsimp only [dbind]; rw [g2]; rfl⟩
  | some r =>
    cases r with
    | err m e1 z => exact ⟨some (.err m e1 z), fun r q => by cases q; exact g1 _ rfl, fun a dd => by dsimp only [dbind]; rw [g2]; rfl⟩
    | ok m e1 v =>
      obtain ⟨g', k1, k2⟩ := h2 v (hp _ _ _ _ (g2 0 0)) e1 (g1 _ rfl)
      dsimp only at k2
      refine ⟨Res.more (α := α) m g', fun r q => ?_, fun a dd => ?_⟩
      · cases g' with
        | none => cases q
        | some r' => cases r' <;> (cases q; have z := k1 _ rfl; exact z)
      · dsimp only [dbind]
        rw [g2]
        dsimp only [Option.map_some, Res.mapE]
        rw [k2, more_map]
theorem dfnA_im {n : Nat} {f : FDen} {e : Env} {d : D} : dfnA n f [.im d] e = if 1 = n then (match f [.im d] with
    | some (.ok m [_] (.im v)) => some (.ok (m && !allIm [O.im d]) e (.im v))
    | some (.ok m [_] (.new p)) => some (.ok (m && !allIm [O.im d]) e (.new p))
    | some (.err m [_] x) => some (.err (m && !allIm [O.im d]) e x)
    | _ => none) else none := by
  unfold dfnA
  by_cases hn : 1 = n
  · rw [if_pos hn, if_pos (show [AR.im d].length = n from hn)]
    rw [show lend [.im d] e = some ([.im d], [none], e) from rfl]
    dsimp only
    cases hf : f [.im d] with
    | none => rfl
    | some r =>
      cases r with
      | err m os x => cases os with
        | nil => rfl
        | cons o' r => cases r <;> rfl
      | ok m os v => cases v <;> (cases os with
          | nil => rfl
          | cons o' r => cases r <;> rfl)
  · rw [if_neg hn, if_neg (show ¬ [AR.im d].length = n from hn)]
theorem ud_meth0 {C : Addr} {m : Str} {n j : Nat} {f : FDen} (hj : j ≠ i) : UD i x (fun _ _ => dmeth C m n f (dvar j) (dpure []) []) := by
  have key : ∀ (e : Env) a dd, (e.set i (excSlot x a dd))[j]? = e[j]? := fun e a dd => List.getElem?_set_ne (Ne.symm hj)
  unfold dmeth
  refine ud_bindV (P := fun v => (∃ d, v = .im d) ∨ v = .bor j) (ud_bind (ud_var hj) fun v => ud_pure) (fun e m e' v h => ?_) fun v hv => ?_
  · unfold ar1 dbind dvar at h
    cases q : e[j]? with
    | none => rw [q] at h; cases h
    | some s =>
      rw [q] at h
      cases s with
      | none => cases h
      | some z =>
        obtain ⟨b, o⟩ := z
        cases o <;> cases h <;> first | exact .inl ⟨_, rfl⟩ | exact .inr rfl
  · intro e he
    have one : ∀ (a : AR) (e' : Env), (dbind (dpure []) fun as => dfnA n f (a :: (as ++ ([] : List D).map AR.im))) e' = Res.more (α := List AR) false (dfnA n f [a] e') := fun a e' => rfl
    rcases hv with ⟨d, rfl⟩ | rfl
    · refine ⟨if isC C m (.im d) e = true then Res.more (α := List AR) false (dfnA n f [.im d] e) else none, fun r z => ?_, fun a dd => ?_⟩
      · split at z
        · rw [dfnA_im] at z
          split at z
          · split at z <;> first | (cases z; exact he) | cases z
          · cases z
        · cases z
      · dsimp only
        rw [show isC C m (.im d) (e.set i (excSlot x a dd)) = isC C m (.im d) e by cases d <;> rfl, one, dfnA_im, dfnA_im]
        split
        · split
          · split <;> rfl
          · rfl
        · rfl
    · refine ⟨if isC C m (.bor j) e = true then Res.more (α := List AR) false (dfnA n f [.bor j] e) else none, fun r z => ?_, fun a dd => ?_⟩
      · split at z
        · cases q : e[j]? with
          | none => rename_i hc; unfold isC at hc; dsimp only at hc; rw [q] at hc; cases hc
          | some s =>
            cases s with
            | none => rename_i hc; unfold isC at hc; dsimp only at hc; rw [q] at hc; cases hc
            | some w =>
              obtain ⟨b, o⟩ := w
              rw [dfnA_bor q] at z
              split at z
              · cases hb : borRes e j b o (f [o]) with
                | none => rw [hb] at z; cases z
                | some y =>
                  rw [hb] at z
                  have := borRes_free he hj hb
                  cases y <;> (cases z; exact this)
              · cases z
        · cases z
      · dsimp only
        rw [show isC C m (.bor j) (e.set i (excSlot x a dd)) = isC C m (.bor j) e by unfold isC; dsimp only; rw [key], one]
        split
        · rename_i hc
          cases q : e[j]? with
          | none => unfold isC at hc; dsimp only at hc; rw [q] at hc; cases hc
          | some s =>
            cases s with
            | none => unfold isC at hc; dsimp only at hc; rw [q] at hc; cases hc
            | some w =>
              obtain ⟨b, o⟩ := w
              rw [dfnA_bor q, dfnA_bor ((key e a dd).trans q), borRes_map hj]
              split
              · rw [more_map]
              · rfl
        · rfl
end
/-! ### a def that raises, its arguments lent -/
def FX (f : FDen) (os : List O) (P : List O → Xn → Prop) : Prop := ∃ m os' x, f os = some (.err m os' x) ∧ P os' x
theorem FX.imp {f : FDen} {os : List O} {P Q : List O → Xn → Prop} (h : FX f os P) (k : ∀ o x, P o x → Q o x) : FX f os Q := by
  obtain ⟨m, o, x, h1, h2⟩ := h
  exact ⟨m, o, x, h1, k o x h2⟩
/-! ### a def that changes nothing: its call is quiet -/
def FOQ (f : FDen) (os : List O) (Post : List O → FRv → Prop) : Prop := ∃ os' r, f os = some (.ok false os' r) ∧ Post os' r
theorem FOQ.fo {f : FDen} {os : List O} {P : List O → FRv → Prop} (h : FOQ f os P) : FO f os P := by
  obtain ⟨os', r, h1, h2⟩ := h
  exact ⟨false, os', r, h1, h2⟩
end
end DL

/-! DNF: for over a dict that stands in an object that is held: frozen while the loop runs, then given back. -/
namespace DL
open PySem PySem.Spec PyProof.Rows L2 Evl
/-! ### what stays told when cells are taken out of what is frozen -/
structure Fl where
  l : Bool
  i : Bool
  t : Bool
def Fl.or (a b : Fl) : Fl := ⟨a.l || b.l, a.i || b.i, a.t || b.t⟩
def Fl.none : Fl := ⟨false, false, false⟩
mutual
def flO : O → Fl
  | .im _ => Fl.none
  | .lst os => (Fl.mk true false false).or (flOs os)
  | .tup os => (Fl.mk false false true).or (flOs os)
  | .dct _ os => flOs os
  | .ins _ _ os => (Fl.mk false true false).or (flOs os)
def flOs : List O → Fl
  | [] => Fl.none
  | o :: os => (flO o).or (flOs os)
end
def Fl.le (a b : Fl) : Prop := (a.l = true → b.l = true) ∧ (a.i = true → b.i = true) ∧ (a.t = true → b.t = true)
theorem Fl.le_refl (a : Fl) : a.le a := ⟨id, id, id⟩
theorem Fl.le_trans {a b c : Fl} (h : a.le b) (k : b.le c) : a.le c := ⟨fun z => k.1 (h.1 z), fun z => k.2.1 (h.2.1 z), fun z => k.2.2 (h.2.2 z)⟩
theorem Fl.le_l (a b : Fl) : a.le (a.or b) := ⟨fun z => by show (a.l || b.l) = true; rw [z]; rfl, fun z => by show (a.i || b.i) = true; rw [z]; rfl, fun z => by show (a.t || b.t) = true; rw [z]; rfl⟩
theorem Fl.le_r (a b : Fl) : b.le (a.or b) := ⟨fun z => by show (a.l || b.l) = true; rw [z, Bool.or_true], fun z => by show (a.i || b.i) = true; rw [z, Bool.or_true], fun z => by show (a.t || b.t) = true; rw [z, Bool.or_true]⟩
/-- the kind of a cell that is taken out -/
def knd (f : Fl) : HO → Prop
  | .lst _ => f.l = true
  | .tup _ => f.t = true
  | .ins _ _ _ => f.i = true
  | .dK _ => True
  | .ext _ => True
  | .frz _ (.dK _) => True
  | .frz _ (.ext _) => True
  | _ => False
theorem knd.le {a b : Fl} (h : a.le b) : ∀ {u : HO}, knd a u → knd b u := by
  intro u k
  cases u with
  | lst xs => exact h.1 k
  | tup xs => exact h.2.2 k
  | ins C dx fs => exact h.2.1 k
  | frz o u => cases u <;> exact k
  | _ => exact k
mutual
def okD (f : Fl) : D → Bool
  | .any => true
  | .non => true
  | .bl _ => true
  | .int _ => true
  | .str _ => true
  | .ty _ => true
  | .adr _ => true
  | .tup ds => !f.t && okDs f ds
  | .wtp ds => !f.t && okDs f ds
  | .lst ds => !f.l && okDs f ds
  | .scr ds => !f.l && okDs f ds
  | .dct _ _ => false
  | .ins _ _ ds => !f.i && okDs f ds
  | .exc _ _ _ _ ds => okDs f ds
def okDs (f : Fl) : List D → Bool
  | [] => true
  | d :: ds => okD f d && okDs f ds
end
mutual
def okO (f : Fl) : O → Bool
  | .im d => okD f d
  | .lst os => okOs f os
  | .tup os => okOs f os
  | .dct _ os => !f.t && okOs f os
  | .ins _ _ os => okOs f os
def okOs (f : Fl) : List O → Bool
  | [] => true
  | o :: os => okO f o && okOs f os
end
def rmF (P : List Addr) (F : Hp) : Hp := fun p => if p ∈ P then none else F p
section
variable {K : KB} {F : Hp} {P : List Addr} {f : Fl}
theorem rd_rm {a : Addr} {u : HO} (hk : ∀ p ∈ P, ∀ w, F p = some w → knd f w) (h : Rd F a u) (h1 : ¬ knd f u) (h2 : ∀ o, ¬ knd f (.frz o u)) : Rd (rmF P F) a u := by
  have na : a ∉ P := fun m => by
    rcases h with h | ⟨o, h⟩
    · exact h1 (hk a m _ h)
    · exact h2 o (hk a m _ h)
  rcases h with h | ⟨o, h⟩
  · exact .inl (by unfold rmF; rw [if_neg na]; exact h)
  · exact .inr ⟨o, by unfold rmF; rw [if_neg na]; exact h⟩
theorem sqT_rm {a : Addr} {xs : List V} (hk : ∀ p ∈ P, ∀ w, F p = some w → knd f w) (ht : f.t = false) (h : SqT K F a xs) : SqT K (rmF P F) a xs := by
  rcases h with h | h
  · exact .inl (rd_rm hk h (fun z => by rw [show f.t = true from z] at ht; cases ht) fun o z => z)
  · exact .inr h
theorem sqL_rm {a : Addr} {xs : List V} (hk : ∀ p ∈ P, ∀ w, F p = some w → knd f w) (ht : f.l = false) (h : SqL K F a xs) : SqL K (rmF P F) a xs := by
  rcases h with h | h
  · exact .inl (rd_rm hk h (fun z => by rw [show f.l = true from z] at ht; cases ht) fun o z => z)
  · exact .inr h
mutual
theorem rep_rm (hk : ∀ p ∈ P, ∀ w, F p = some w → knd f w) : ∀ (d : D) (v : V), okD f d = true → Rep K F d v → Rep K (rmF P F) d v
  | .any, v, o, h => h
  | .non, v, o, h => h
  | .bl b, v, o, h => h
  | .int i, v, o, h => h
  | .str x, v, o, h => h
  | .ty n, v, o, h => h
  | .adr a, v, o, h => h
  | .tup ds, v, o, h => by
    obtain ⟨a, xs, e1, h1, h2⟩ := h
    rw [okD, Bool.and_eq_true, Bool.not_eq_true'] at o
    exact ⟨a, xs, e1, sqT_rm hk o.1 h1, reps_rm hk ds xs o.2 h2⟩
  | .wtp ds, v, o, h => by
    obtain ⟨a, xs, e1, h1, h2⟩ := h
    rw [okD, Bool.and_eq_true, Bool.not_eq_true'] at o
    exact ⟨a, xs, e1, sqT_rm hk o.1 h1, reps_rm hk ds xs o.2 h2⟩
  | .lst ds, v, o, h => by
    obtain ⟨a, xs, e1, h1, h2⟩ := h
    rw [okD, Bool.and_eq_true, Bool.not_eq_true'] at o
    refine ⟨a, xs, e1, ?_, reps_rm hk ds xs o.2 h2⟩
    have na : a ∉ P := fun m => by have := hk a m _ h1; rw [show f.l = true from this] at o; cases o.1
    unfold rmF
    rw [if_neg na]
    exact h1
  | .scr ds, v, o, h => by
    obtain ⟨a, xs, e1, h1, h2⟩ := h
    rw [okD, Bool.and_eq_true, Bool.not_eq_true'] at o
    exact ⟨a, xs, e1, sqL_rm hk o.1 h1, reps_rm hk ds xs o.2 h2⟩
  | .dct ks ds, v, o, h => by cases o
  | .ins C ns ds, v, o, h => by
    obtain ⟨a, dx, xs, e1, h1, h2, h3⟩ := h
    rw [okD, Bool.and_eq_true, Bool.not_eq_true'] at o
    refine ⟨a, dx, xs, e1, ?_, h2, reps_rm hk ds xs o.2 h3⟩
    have na : a ∉ P := fun m => by have := hk a m _ h1; rw [show f.i = true from this] at o; cases o.1
    unfold rmF
    rw [if_neg na]
    exact h1
  | .exc c a dd ns ds, v, o, h => by
    obtain ⟨xs, e1, h1, h2, h3⟩ := h
    rw [okD] at o
    refine ⟨xs, e1, ?_, h2, reps_rm hk ds xs o h3⟩
    have na : dd ∉ P := fun m => hk dd m _ h1
    unfold rmF
    rw [if_neg na]
    exact h1
theorem reps_rm (hk : ∀ p ∈ P, ∀ w, F p = some w → knd f w) : ∀ (ds : List D) (xs : List V), okDs f ds = true → Reps K F ds xs → Reps K (rmF P F) ds xs
  | [], xs, o, h => h
  | d :: ds, xs, o, h => by
    obtain ⟨x, r, e1, h1, h2⟩ := h
    rw [okDs, Bool.and_eq_true] at o
    exact ⟨x, r, e1, rep_rm hk d x o.1 h1, reps_rm hk ds r o.2 h2⟩
end
theorem dictAt_rm {a : Addr} {ho : HO} {ks : List D} {xs : List V} (hk : ∀ p ∈ P, ∀ w, F p = some w → knd f w) (ht : f.t = false) (h : DictAt K F a ho ks xs) : DictAt K (rmF P F) a ho ks xs := by
  rcases h with h | ⟨kvs, h1, h2, h3, h4⟩
  · exact .inl h
  · exact .inr ⟨kvs, h1, ⟨h2.1, h2.2.len, h2.2.sys, h2.2.nd, fun x hx => sqT_rm hk ht (h2.2.at_ x hx)⟩, h3, h4⟩
mutual
theorem own_rm {H H3 : Hp} (hk : ∀ p ∈ P, ∀ w, F p = some w → knd f w) : ∀ (o : O) (v : V) (fs : List Addr), okO f o = true → (∀ p ∈ fs, ∀ u, H p = some u → H3 p = some u) → Own K F H o v fs → Own K (rmF P F) H3 o v fs
  | .im d, v, fs, z, k, h => ⟨h.1, rep_rm hk d v z h.2⟩
  | .lst os, v, fs, z, k, h => by
    obtain ⟨a, xs, r, e1, e2, h1, h2⟩ := h
    subst e2
    exact ⟨a, xs, r, e1, rfl, k a List.mem_cons_self _ h1, owns_rm hk os xs r z (fun p hp => k p (List.mem_cons_of_mem _ hp)) h2⟩
  | .tup os, v, fs, z, k, h => by
    obtain ⟨a, xs, r, e1, e2, h1, h2⟩ := h
    subst e2
    exact ⟨a, xs, r, e1, rfl, k a List.mem_cons_self _ h1, owns_rm hk os xs r z (fun p hp => k p (List.mem_cons_of_mem _ hp)) h2⟩
  | .dct ks os, v, fs, z, k, h => by
    obtain ⟨a, ho, xs, r, e1, e2, h1, h0, h2⟩ := h
    subst e2
    rw [okO, Bool.and_eq_true, Bool.not_eq_true'] at z
    exact ⟨a, ho, xs, r, e1, rfl, k a List.mem_cons_self _ h1, dictAt_rm hk z.1 h0, owns_rm hk os xs r z.2 (fun p hp => k p (List.mem_cons_of_mem _ hp)) h2⟩
  | .ins C ns os, v, fs, z, k, h => by
    obtain ⟨a, dx, xs, r, e1, e2, h1, h0, h2⟩ := h
    subst e2
    exact ⟨a, dx, xs, r, e1, rfl, k a List.mem_cons_self _ h1, h0, owns_rm hk os xs r z (fun p hp => k p (List.mem_cons_of_mem _ hp)) h2⟩
theorem owns_rm {H H3 : Hp} (hk : ∀ p ∈ P, ∀ w, F p = some w → knd f w) : ∀ (os : List O) (xs : List V) (fs : List Addr), okOs f os = true → (∀ p ∈ fs, ∀ u, H p = some u → H3 p = some u) → Owns K F H os xs fs → Owns K (rmF P F) H3 os xs fs
  | [], xs, fs, z, k, h => h
  | o :: os, xs, fs, z, k, h => by
    obtain ⟨x, r, f1, f2, e1, e2, h1, h2⟩ := h
    subst e2
    rw [okOs, Bool.and_eq_true] at z
    exact ⟨x, r, f1, f2, e1, rfl, own_rm hk o x f1 z.1 (fun p hp => k p (List.mem_append_left _ hp)) h1, owns_rm hk os r f2 z.2 (fun p hp => k p (List.mem_append_right _ hp)) h2⟩
end
end
/-! ### what is held, frozen, a dict of it locked -/
def dctHO : HO → Prop
  | .dK _ => True
  | .ext _ => True
  | _ => False
mutual
theorem own_repL {K : KB} {F H F' : Hp} (e : Ex F F') : ∀ (o : O) (v : V) (fs : List Addr), (∀ p ∈ fs, ∀ u, H p = some u → F' p = some u ∨ (dctHO u ∧ ∃ od, F' p = some (.frz od u))) → Own K F H o v fs → Rep K F' o.flat v
  | .im d, v, fs, k, h => Rep.mono e d v h.2
  | .lst os, v, fs, k, h => by
    obtain ⟨a, xs, r, e1, e2, h1, h2⟩ := h
    subst e2
    refine ⟨a, xs, e1, ?_, owns_repL e os xs r (fun p hp => k p (List.mem_cons_of_mem _ hp)) h2⟩
    rcases k a List.mem_cons_self _ h1 with z | ⟨z, _⟩
    · exact z
    · exact False.elim z
  | .tup os, v, fs, k, h => by
    obtain ⟨a, xs, r, e1, e2, h1, h2⟩ := h
    subst e2
    refine ⟨a, xs, e1, ?_, owns_repL e os xs r (fun p hp => k p (List.mem_cons_of_mem _ hp)) h2⟩
    rcases k a List.mem_cons_self _ h1 with z | ⟨z, _⟩
    · exact SqT.of z
    · exact False.elim z
  | .dct ks os, v, fs, k, h => by
    obtain ⟨a, ho, xs, r, e1, e2, h1, h0, h2⟩ := h
    subst e2
    refine ⟨a, ho, xs, e1, ?_, h0.mono e, owns_repL e os xs r (fun p hp => k p (List.mem_cons_of_mem _ hp)) h2⟩
    rcases k a List.mem_cons_self _ h1 with z | ⟨_, od, z⟩
    · exact .inl z
    · exact .inr ⟨od, z⟩
  | .ins C ns os, v, fs, k, h => by
    obtain ⟨a, dx, xs, r, e1, e2, h1, h0, h2⟩ := h
    subst e2
    refine ⟨a, dx, xs, e1, ?_, h0, owns_repL e os xs r (fun p hp => k p (List.mem_cons_of_mem _ hp)) h2⟩
    rcases k a List.mem_cons_self _ h1 with z | ⟨z, _⟩
    · exact z
    · exact False.elim z
theorem owns_repL {K : KB} {F H F' : Hp} (e : Ex F F') : ∀ (os : List O) (xs : List V) (fs : List Addr), (∀ p ∈ fs, ∀ u, H p = some u → F' p = some u ∨ (dctHO u ∧ ∃ od, F' p = some (.frz od u))) → Owns K F H os xs fs → Reps K F' (O.flats os) xs
  | [], xs, fs, k, h => h.1
  | o :: os, xs, fs, k, h => by
    obtain ⟨x, r, f1, f2, e1, e2, h1, h2⟩ := h
    subst e2
    exact ⟨x, r, e1, own_repL e o x f1 (fun p hp => k p (List.mem_append_left _ hp)) h1, owns_repL e os r f2 (fun p hp => k p (List.mem_append_right _ hp)) h2⟩
end
mutual
theorem own_knd {K : KB} {F H : Hp} : ∀ (o : O) (v : V) (fs : List Addr), Own K F H o v fs → ∀ p ∈ fs, ∀ u, H p = some u → knd (flO o) u
  | .im d, v, fs, h, p, hp, u, hu => by rw [h.1] at hp; cases hp
  | .lst os, v, fs, h, p, hp, u, hu => by
    obtain ⟨a, xs, r, e1, e2, h1, h2⟩ := h
    subst e2
    rcases List.mem_cons.mp hp with z | hp
    · subst z; rw [h1] at hu; cases hu; exact (Fl.le_l _ _).1 rfl
    · exact knd.le (Fl.le_r _ _) (owns_knd os xs r h2 p hp u hu)
  | .tup os, v, fs, h, p, hp, u, hu => by
    obtain ⟨a, xs, r, e1, e2, h1, h2⟩ := h
    subst e2
    rcases List.mem_cons.mp hp with z | hp
    · subst z; rw [h1] at hu; cases hu; exact (Fl.le_l _ _).2.2 rfl
    · exact knd.le (Fl.le_r _ _) (owns_knd os xs r h2 p hp u hu)
  | .dct ks os, v, fs, h, p, hp, u, hu => by
    obtain ⟨a, ho, xs, r, e1, e2, h1, h0, h2⟩ := h
    subst e2
    rcases List.mem_cons.mp hp with z | hp
    · subst z
      rw [h1] at hu
      cases hu
      rcases h0 with ⟨kvs, e, _⟩ | ⟨kvs, e, _⟩ <;> (subst e; exact True.intro)
    · exact owns_knd os xs r h2 p hp u hu
  | .ins C ns os, v, fs, h, p, hp, u, hu => by
    obtain ⟨a, dx, xs, r, e1, e2, h1, h0, h2⟩ := h
    subst e2
    rcases List.mem_cons.mp hp with z | hp
    · subst z; rw [h1] at hu; cases hu; exact (Fl.le_l _ _).2.1 rfl
    · exact knd.le (Fl.le_r _ _) (owns_knd os xs r h2 p hp u hu)
theorem owns_knd {K : KB} {F H : Hp} : ∀ (os : List O) (xs : List V) (fs : List Addr), Owns K F H os xs fs → ∀ p ∈ fs, ∀ u, H p = some u → knd (flOs os) u
  | [], xs, fs, h, p, hp, u, hu => by rw [h.2] at hp; cases hp
  | o :: os, xs, fs, h, p, hp, u, hu => by
    obtain ⟨x, r, f1, f2, e1, e2, h1, h2⟩ := h
    subst e2
    rcases List.mem_append.mp hp with z | z
    · exact knd.le (Fl.le_l _ _) (own_knd o x f1 h1 p z u hu)
    · exact knd.le (Fl.le_r _ _) (owns_knd os r f2 h2 p z u hu)
end
end DL

/-! DNG: slots frozen for a while, and given back. -/
namespace DL
open PySem PySem.Spec PyProof.Rows L2 Evl
def pinS (ks : List Nat) : Nat → Env → Env
  | _, [] => []
  | n, s :: e => (if n ∈ ks then s.map (fun q => (true, O.im q.2.flat)) else s) :: pinS ks (n + 1) e
def mend1 (f : Fl) (k : Bool) (s s' : Slot) : Option Slot := match k with
  | true => match s, s' with
    | some q, some (true, _) => some (some q)
    | _, _ => none
  | false => match s', s with
    | none, _ => some none
    | some (false, o'), _ => if okO f o' = true then some (some (false, o')) else none
    | some (true, o'), some (true, _) => if okO f o' = true then some (some (true, o')) else none
    | _, _ => none
def mendS (f : Fl) (ks : List Nat) : Nat → Env → Env → Option Env
  | _, [], [] => some []
  | n, s :: e, s' :: e' => (mend1 f (decide (n ∈ ks)) s s').bind fun z => (mendS f ks (n + 1) e e').map (z :: ·)
  | _, _, _ => none
def flE (ks : List Nat) : Nat → Env → Fl
  | _, [] => Fl.none
  | n, s :: e => if n ∈ ks then (match s with
    | some q => (flO q.2).or (flE ks (n + 1) e)
    | none => flE ks (n + 1) e) else flE ks (n + 1) e
section
variable {K : KB} {F H : Hp} {ks : List Nat} {f : Fl}
theorem pin_ok : ∀ (e : Env) (n : Nat) (σ σ0 : L2.St) (hs : List (V × O)) (fs : List Addr), Slots e σ σ0 hs → Held K F H hs fs → (flE ks n e).le f →
    ∃ fk fr hs', fs.Perm (fk ++ fr) ∧ Slots (pinS ks n e) σ σ hs' ∧ (∀ p ∈ fk, ∀ u, H p = some u → knd f u) ∧
      (∀ (j : Nat) (b : Bool) (o : O), n + j ∈ ks → e[j]? = some (some (b, o)) → ∃ v fi, σ[j]? = some (some v) ∧ Own K F H o v fi ∧ fi.Sublist fk) ∧
      (∀ F' H', Ex F F' → (∀ p ∈ fk, ∀ u, H p = some u → F' p = some u ∨ (dctHO u ∧ ∃ od, F' p = some (.frz od u))) → (∀ p ∈ fr, ∀ u, H p = some u → H' p = some u) → Held K F' H' hs' fr) ∧
      (∀ (F'' H'' H3 : Hp) (P : List Addr) (e'' e3 : Env) (σ'' : L2.St) (hs'' : List (V × O)) (fs'' : List Addr), Slots e'' σ'' σ hs'' → Held K F'' H'' hs'' fs'' → mendS f ks n e e'' = some e3 → Ex F (rmF P F'') → (∀ p ∈ P, ∀ w, F'' p = some w → knd f w) →
        (∀ p ∈ fk, ∀ u, H p = some u → H3 p = some u) → (∀ p ∈ fs'', ∀ u, H'' p = some u → H3 p = some u) → ∃ hs3 fs3 g, Slots e3 σ'' σ0 hs3 ∧ Held K (rmF P F'') H3 hs3 fs3 ∧ g.Sublist fs'' ∧ fs3.Perm (fk ++ g))
  | [], n, σ, σ0, hs, fs, h, hd, hf => by
    obtain ⟨rfl, rfl⟩ := h
    have hfs : fs = [] := hd
    subst hfs
    refine ⟨[], [], [], List.Perm.refl _, ⟨rfl, rfl⟩, fun p hp => (by cases hp), fun j b o _ z => (by simp at z), fun F' H' _ _ _ => rfl, ?_⟩
    intro F'' H'' H3 P e'' e3 σ'' hs'' fs'' h1 h2 h3 _ _ _ _
    cases e'' with
    | nil =>
      cases h3
      obtain ⟨rfl, rfl⟩ := h1
      exact ⟨[], [], [], ⟨rfl, rfl⟩, rfl, List.nil_sublist _, List.Perm.refl _⟩
    | cons _ _ => cases h3
  | none :: e, n, σ, σ0, hs, fs, h, hd, hf => by
    obtain ⟨x, r, rfl, h1⟩ := h
    have hf' : (flE ks (n + 1) e).le f := by
      unfold flE at hf
      by_cases hn : n ∈ ks
      · rw [if_pos hn] at hf; exact hf
      · rw [if_neg hn] at hf; exact hf
    obtain ⟨fk, fr, hs', p1, p2, p3, p4, p5, p6⟩ := pin_ok e (n + 1) r σ0.tail hs fs h1 hd hf'
    refine ⟨fk, fr, hs', p1, ?_, p3, ?_, p5, ?_⟩
    · have : pinS ks n (none :: e) = none :: pinS ks (n + 1) e := by
        show (if n ∈ ks then _ else _) :: _ = _
        split <;> rfl
      rw [this]
      exact ⟨x, r, rfl, p2⟩
    · intro j b o hj hz
      cases j with
      | zero => simp at hz
      | succ j =>
        obtain ⟨v, fi, q1, q2, q3⟩ := p4 j b o (by rw [show n + 1 + j = n + (j + 1) by omega]; exact hj) (by simpa using hz)
        exact ⟨v, fi, by simpa using q1, q2, q3⟩
    · intro F'' H'' H3 P e'' e3 σ'' hs'' fs'' h1 h2 h3 x1 x2 x3 x4
      cases e'' with
      | nil => cases h3
      | cons s' e1 =>
        obtain ⟨z, hz, h3⟩ := Option.bind_eq_some_iff.mp h3
        obtain ⟨e4, h4, rfl⟩ := Option.map_eq_some_iff.mp h3
        by_cases hn : n ∈ ks
        · rw [decide_eq_true hn] at hz
          cases hz
        · rw [decide_eq_false hn] at hz
          cases s' with
          | none =>
            cases hz
            obtain ⟨x', r', rfl, k1⟩ := h1
            obtain ⟨hs3, fs3, g, g1, g2, g3, g4⟩ := p6 F'' H'' H3 P e1 e4 r' hs'' fs'' k1 h2 h4 x1 x2 x3 x4
            exact ⟨hs3, fs3, g, ⟨x', r', rfl, g1⟩, g2, g3, g4⟩
          | some q =>
            obtain ⟨b', o'⟩ := q
            cases b' with
            | true => cases hz
            | false =>
              obtain ⟨ho', hz⟩ := (show okO f o' = true ∧ some (some (false, o')) = some z by
                have hz : (if okO f o' = true then some (some (false, o')) else none) = some z := hz
                split at hz
                · rename_i h; exact ⟨h, hz⟩
                · cases hz)
              cases hz
              obtain ⟨v', r', hr', rfl, _, rfl, k1⟩ := h1
              obtain ⟨g1, g2, rfl, w1, w2⟩ := h2
              obtain ⟨hs3, fs3, g, y1, y2, y3, y4⟩ := p6 F'' H'' H3 P e1 e4 r' hr' g2 k1 w2 h4 x1 x2 x3 (fun p hp => x4 p (List.mem_append_right _ hp))
              refine ⟨(v', o') :: hs3, g1 ++ fs3, g1 ++ g, ⟨v', r', hs3, rfl, (fun z => by cases z), rfl, y1⟩, ⟨g1, fs3, rfl, own_rm x2 o' v' g1 ho' (fun p hp => x4 p (List.mem_append_left _ hp)) w1, y2⟩, y3.append_left g1, ?_⟩
              exact (y4.append_left g1).trans (by rw [← List.append_assoc, ← List.append_assoc]; exact List.perm_append_comm.append_right g)
  | some q :: e, n, σ, σ0, hs, fs, h, hd, hf => by
    obtain ⟨v, r, hr, rfl, hb, rfl, h1⟩ := h
    obtain ⟨f1, f2, rfl, w1, w2⟩ := hd
    by_cases hn : n ∈ ks
    · have hf1 : (flO q.2).le f ∧ (flE ks (n + 1) e).le f := by
        unfold flE at hf
        rw [if_pos hn] at hf
        exact ⟨Fl.le_trans (Fl.le_l _ _) hf, Fl.le_trans (Fl.le_r _ _) hf⟩
      obtain ⟨fk, fr, hs', p1, p2, p3, p4, p5, p6⟩ := pin_ok e (n + 1) r σ0.tail hr f2 h1 w2 hf1.2
      refine ⟨f1 ++ fk, fr, (v, .im q.2.flat) :: hs', ?_, ?_, ?_, ?_, ?_, ?_⟩
      · rw [List.append_assoc]; exact p1.append_left f1
      · have : pinS ks n (some q :: e) = some (true, .im q.2.flat) :: pinS ks (n + 1) e := by
          show (if n ∈ ks then _ else _) :: _ = _
          rw [if_pos hn]; rfl
        rw [this]
        exact ⟨v, r, hs', rfl, fun _ => rfl, rfl, p2⟩
      · intro p hp u hu
        rcases List.mem_append.mp hp with hp | hp
        · exact knd.le hf1.1 (own_knd _ _ _ w1 p hp u hu)
        · exact p3 p hp u hu
      · intro j b o hj hz
        cases j with
        | zero =>
          have : q = (b, o) := by simpa using hz
          subst this
          exact ⟨v, f1, rfl, w1, List.sublist_append_left _ _⟩
        | succ j =>
          obtain ⟨v', fi, q1, q2, q3⟩ := p4 j b o (by rw [show n + 1 + j = n + (j + 1) by omega]; exact hj) (by simpa using hz)
          exact ⟨v', fi, by simpa using q1, q2, q3.trans (List.sublist_append_right _ _)⟩
      · intro F' H' x1 x2 x3
        refine ⟨[], fr, rfl, ⟨rfl, ?_⟩, p5 F' H' x1 (fun p hp => x2 p (List.mem_append_right _ hp)) x3⟩
        exact own_repL x1 _ _ f1 (fun p hp => x2 p (List.mem_append_left _ hp)) w1
      · intro F'' H'' H3 P e'' e3 σ'' hs'' fs'' k0 h2 h3 x1 x2 x3 x4
        cases e'' with
        | nil => cases h3
        | cons s' e1 =>
          obtain ⟨z, hz, h3⟩ := Option.bind_eq_some_iff.mp h3
          obtain ⟨e4, h4, rfl⟩ := Option.map_eq_some_iff.mp h3
          rw [decide_eq_true hn] at hz
          cases s' with
          | none => cases hz
          | some q' =>
            obtain ⟨b', o'⟩ := q'
            cases b' with
            | false => cases hz
            | true =>
              cases hz
              obtain ⟨v', r', hr', rfl, hb', rfl, k1⟩ := k0
              have ev : v' = v := by
                have := hb' rfl
                simpa using this.symm
              subst ev
              obtain ⟨g1, g2, rfl, z1, z2⟩ := h2
              obtain ⟨hs3, fs3, g, y1, y2, y3, y4⟩ := p6 F'' H'' H3 P e1 e4 r' hr' g2 k1 z2 h4 x1 x2 (fun p hp => x3 p (List.mem_append_right _ hp)) (fun p hp => x4 p (List.mem_append_right _ hp))
              refine ⟨(v', q.2) :: hs3, f1 ++ fs3, g, ⟨v', r', hs3, rfl, hb, rfl, y1⟩, ⟨f1, fs3, rfl, Own.mono x1 _ _ f1 (fun p hp => x3 p (List.mem_append_left _ hp)) w1, y2⟩, y3.trans (List.sublist_append_right _ _), ?_⟩
              rw [List.append_assoc]
              exact y4.append_left f1
    · have hf1 : (flE ks (n + 1) e).le f := by
        unfold flE at hf
        rw [if_neg hn] at hf
        exact hf
      obtain ⟨fk, fr, hs', p1, p2, p3, p4, p5, p6⟩ := pin_ok e (n + 1) r σ0.tail hr f2 h1 w2 hf1
      have comm : ∀ g : List Addr, (f1 ++ (fk ++ g)).Perm (fk ++ (f1 ++ g)) := fun g => by
        rw [← List.append_assoc, ← List.append_assoc]
        exact List.perm_append_comm.append_right g
      refine ⟨fk, f1 ++ fr, (v, q.2) :: hs', (p1.append_left f1).trans (comm fr), ?_, p3, ?_, ?_, ?_⟩
      · have : pinS ks n (some q :: e) = some q :: pinS ks (n + 1) e := by
          show (if n ∈ ks then _ else _) :: _ = _
          rw [if_neg hn]
        rw [this]
        exact ⟨v, r, hs', rfl, fun _ => rfl, rfl, p2⟩
      · intro j b o hj hz
        cases j with
        | zero => exact absurd hj hn
        | succ j =>
          obtain ⟨v', fi, q1, q2, q3⟩ := p4 j b o (by rw [show n + 1 + j = n + (j + 1) by omega]; exact hj) (by simpa using hz)
          exact ⟨v', fi, by simpa using q1, q2, q3⟩
      · intro F' H' x1 x2 x3
        exact ⟨f1, fr, rfl, Own.mono x1 _ _ f1 (fun p hp => x3 p (List.mem_append_left _ hp)) w1, p5 F' H' x1 x2 (fun p hp => x3 p (List.mem_append_right _ hp))⟩
      · intro F'' H'' H3 P e'' e3 σ'' hs'' fs'' k0 h2 h3 x1 x2 x3 x4
        cases e'' with
        | nil => cases h3
        | cons s' e1 =>
          obtain ⟨z, hz, h3⟩ := Option.bind_eq_some_iff.mp h3
          obtain ⟨e4, h4, rfl⟩ := Option.map_eq_some_iff.mp h3
          rw [decide_eq_false hn] at hz
          cases s' with
          | none =>
            cases hz
            obtain ⟨x', r', rfl, k1⟩ := k0
            obtain ⟨hs3, fs3, g, g1, g2, g3, g4⟩ := p6 F'' H'' H3 P e1 e4 r' hs'' fs'' k1 h2 h4 x1 x2 x3 x4
            exact ⟨hs3, fs3, g, ⟨x', r', rfl, g1⟩, g2, g3, g4⟩
          | some q' =>
            obtain ⟨b', o'⟩ := q'
            have hb2 : okO f o' = true ∧ z = some (b', o') ∧ (b' = true → q.1 = true) := by
              cases b' with
              | false =>
                have hz : (if okO f o' = true then some (some (false, o')) else none) = some z := hz
                split at hz
                · rename_i h; cases hz; exact ⟨h, rfl, fun z => by cases z⟩
                · cases hz
              | true =>
                obtain ⟨qb, qo⟩ := q
                cases qb with
                | false => cases hz
                | true =>
                  have hz : (if okO f o' = true then some (some (true, o')) else none) = some z := hz
                  split at hz
                  · rename_i h; cases hz; exact ⟨h, rfl, fun _ => rfl⟩
                  · cases hz
            obtain ⟨ho', rfl, hbb⟩ := hb2
            obtain ⟨v', r', hr', rfl, hb', rfl, k1⟩ := k0
            obtain ⟨g1, g2, rfl, z1, z2⟩ := h2
            obtain ⟨hs3, fs3, g, y1, y2, y3, y4⟩ := p6 F'' H'' H3 P e1 e4 r' hr' g2 k1 z2 h4 x1 x2 x3 (fun p hp => x4 p (List.mem_append_right _ hp))
            refine ⟨(v', o') :: hs3, g1 ++ fs3, g1 ++ g, ⟨v', r', hs3, rfl, ?_, rfl, y1⟩, ⟨g1, fs3, rfl, own_rm x2 o' v' g1 ho' (fun p hp => x4 p (List.mem_append_left _ hp)) z1, y2⟩, y3.append_left g1, ?_⟩
            · intro hbt
              have ev : v' = v := by
                have := hb' hbt
                simpa using this.symm
              rw [ev]
              exact hb (hbb hbt)
            · exact (y4.append_left g1).trans (by rw [← List.append_assoc, ← List.append_assoc]; exact List.perm_append_comm.append_right g)
end

section
variable {K : KB} {c : Ctx} {F H : Hp} {σ : L2.St} {e : Env} {ts : List (V × O)} {ks : List Nat}
/-- what the slots ks hold is frozen, one of its dicts locked; afterwards it is held again -/
theorem RE.scope (R : RE K c F H σ e ts) : ∃ fk : List Addr, fk.Nodup ∧
    (∀ (j : Nat) (b : Bool) (o : O), j ∈ ks → e[j]? = some (some (b, o)) → ∃ v fi, σ[j]? = some (some v) ∧ Own K F H o v fi ∧ fi.Sublist fk) ∧
    ∀ (a : Addr) (ho : HO) (od : Obj), a ∈ fk → H a = some ho → dctHO ho → ∃ (c' : Ctx) (F' : Hp), RE K c' F' (upd H a (.frz od ho)) σ (pinS ks 0 e) [] ∧ Ex F F' ∧ F' a = some (.frz od ho) ∧
      (∀ p ∈ fk, p ≠ a → F' p = H p) ∧
      ∀ (F'' H'' : Hp) (σ'' : L2.St) (e'' e3 : Env), Ex F' F'' → RE K c' F'' H'' σ'' e'' [] → mendS (flE ks 0 e) ks 0 e e'' = some e3 →
        H'' a = some (.frz od ho) ∧ RE K c (rmF fk F'') (upd H'' a ho) σ'' e3 ts ∧ Ex F (rmF fk F'') ∧ (Ex (upd H a (.frz od ho)) H'' → Ex H (upd H'' a ho)) ∧ (∀ d v, okD (flE ks 0 e) d = true → Rep K F'' d v → Rep K (rmF fk F'') d v) := by
  obtain ⟨hs, fs, h1, h2, h3, h4⟩ := R.hd
  obtain ⟨fts, fhs, rfl, ht, hh⟩ := h2.split
  obtain ⟨fk, fr, hs', p1, p2, p3, p4, p5, p6⟩ := pin_ok (ks := ks) (f := flE ks 0 e) e 0 σ c.σ0 hs fhs h1 hh (Fl.le_refl _)
  have ndh : fhs.Nodup := (List.nodup_append.mp h3).2.1
  have nd2 : (fk ++ fr).Nodup := p1.nodup_iff.mp ndh
  have ndk : fk.Nodup := (List.nodup_append.mp nd2).1
  have kin : ∀ p ∈ fk, p ∈ fhs := fun p hp => p1.mem_iff.mpr (List.mem_append_left _ hp)
  have rin : ∀ p ∈ fr, p ∈ fhs := fun p hp => p1.mem_iff.mpr (List.mem_append_right _ hp)
  have dkr : ∀ p ∈ fk, p ∉ fr := fun p hp hr => (List.nodup_append.mp nd2).2.2 p hp p hr rfl
  have dts : ∀ p ∈ fts, p ∉ fhs := fun p hp hr => (List.nodup_append.mp h3).2.2 p hp p hr rfl
  have hF : ∀ p ∈ fhs, F p = none ∧ c.G p = none := fun p hp => h4 p (List.mem_append_right _ hp)
  have hFt : ∀ p ∈ fts, F p = none ∧ c.G p = none := fun p hp => h4 p (List.mem_append_left _ hp)
  have hT : ∀ p ∈ fts, H p ≠ none := Held.there ht
  refine ⟨fk, ndk, fun j b o hj hz => p4 j b o (by rw [Nat.zero_add]; exact hj) hz, fun a ho od hak hHa hdct => ?_⟩
  have haf := hF a (kin a hak)
  let F' : Hp := fun p => if p ∈ fk then upd H a (.frz od ho) p else F p
  let c' : Ctx := ⟨fun p => if p ∈ fts then H p else c.G p, c.F0, σ⟩
  have Fk : ∀ p, p ∈ fk → F' p = upd H a (.frz od ho) p := fun p hp => if_pos hp
  have Fn : ∀ p, p ∉ fk → F' p = F p := fun p hp => if_neg hp
  have Gt : ∀ p, p ∈ fts → c'.G p = H p := fun p hp => if_pos hp
  have Gn : ∀ p, p ∉ fts → c'.G p = c.G p := fun p hp => if_neg hp
  have eF : Ex F F' := fun p u hu => by
    have : p ∉ fk := fun hp => by rw [(hF p (kin p hp)).1] at hu; cases hu
    rw [Fn p this]; exact hu
  have na_t : a ∉ fts := fun h => dts a h (kin a hak)
  have Rin : RE K c' F' (upd H a (.frz od ho)) σ (pinS ks 0 e) [] := by
    refine ⟨fun p u hu => ?_, R.f0.trans eF, fun p u hu => ?_, fun p hp => ?_, hs', fr, p2, ?_, (List.nodup_append.mp nd2).2.1, fun p hp => ?_⟩
    · by_cases hp : p ∈ fts
      · rw [Gt p hp] at hu
        rw [upd_ne (fun z => na_t (by rw [← z]; exact hp))]
        exact hu
      · rw [Gn p hp] at hu
        rw [upd_ne (fun z => by rw [z, haf.2] at hu; cases hu)]
        exact R.g p u hu
    · by_cases hp : p ∈ fk
      · rw [Fk p hp] at hu; exact hu
      · rw [Fn p hp] at hu
        rw [upd_ne (fun z => hp (by rw [z]; exact hak))]
        exact R.fh p u hu
    · by_cases hk : p ∈ fk
      · right
        rw [Gn p (fun h => dts p h (kin p hk))]
        exact (hF p (kin p hk)).2
      · rw [Fn p hk] at hp
        rcases R.nw p hp with z | z
        · exact .inl z
        · right
          have : p ∉ fts := fun h => hp (hFt p h).1
          rw [Gn p this]; exact z
    · refine p5 F' _ eF (fun p hp u hu => ?_) (fun p hp u hu => ?_)
      · rw [Fk p hp]
        by_cases z : p = a
        · subst z
          rw [hHa] at hu
          cases hu
          exact .inr ⟨hdct, od, upd_same⟩
        · rw [upd_ne z]; exact .inl hu
      · rw [upd_ne (fun z => dkr a hak (by rw [← z]; exact hp))]; exact hu
    · refine ⟨?_, ?_⟩
      · rw [Fn p (fun h => dkr p h hp)]; exact (hF p (rin p hp)).1
      · rw [Gn p (fun h => dts p h (rin p hp))]; exact (hF p (rin p hp)).2
  refine ⟨c', F', Rin, eF, by rw [Fk a hak, upd_same], fun p hp hne => by rw [Fk p hp, upd_ne hne], fun F'' H'' σ'' e'' e3 x1 R2 hm => ?_⟩
  have hH''a : H'' a = some (.frz od ho) := R2.fh a _ (x1 a _ (by rw [Fk a hak, upd_same]))
  have eF3 : Ex F (rmF fk F'') := fun p u hu => by
    have hn : p ∉ fk := fun hp => by rw [(hF p (kin p hp)).1] at hu; cases hu
    unfold rmF
    rw [if_neg hn]
    exact x1 p u (by rw [Fn p hn]; exact hu)
  have kk : ∀ p ∈ fk, ∀ w, F'' p = some w → knd (flE ks 0 e) w := fun p hp w hw => by
    cases hHp : H p with
    | none => exact absurd hHp (Held.there hh p (kin p hp))
    | some u =>
      by_cases z : p = a
      · subst z
        rw [x1 p _ (by rw [Fk p hp, upd_same])] at hw
        cases hw
        rw [hHa] at hHp
        cases hHp
        cases ho <;> first | exact True.intro | exact False.elim hdct
      · rw [x1 p u (by rw [Fk p hp, upd_ne z]; exact hHp)] at hw
        have hw : u = w := Option.some.inj hw
        subst hw
        exact p3 p hp u hHp
  have kH : ∀ p ∈ fk, ∀ u, H p = some u → upd H'' a ho p = some u := fun p hp u hu => by
    by_cases z : p = a
    · subst z; rw [upd_same]; rw [hHa] at hu; exact hu
    · rw [upd_ne z]
      exact R2.fh p u (x1 p u (by rw [Fk p hp, upd_ne z]; exact hu))
  obtain ⟨hs'', fs'', q1, q2, q3, q4⟩ := R2.hd
  have ns'' : ∀ p ∈ fs'', p ∉ fk := fun p hp hk => by
    have hF0 := (q4 p hp).1
    cases hHp : H p with
    | none => exact absurd hHp (Held.there hh p (kin p hk))
    | some u =>
      have : ∃ w, F' p = some w := by
        rw [Fk p hk]
        by_cases z : p = a
        · subst z; exact ⟨_, upd_same⟩
        · rw [upd_ne z]; exact ⟨u, hHp⟩
      obtain ⟨w, hw⟩ := this
      rw [x1 p w hw] at hF0
      cases hF0
  have nst : ∀ p ∈ fs'', p ∉ fts := fun p hp h => by
    have := (q4 p hp).2
    rw [Gt p h] at this
    exact hT p h this
  obtain ⟨hs3, fs3, g, y1, y2, y3, y4⟩ := p6 F'' H'' (upd H'' a ho) fk e'' e3 σ'' hs'' fs'' q1 q2 hm eF3 kk kH (fun p hp u hu => by rw [upd_ne (fun z => ns'' p hp (by rw [z]; exact hak))]; exact hu)
  have cG : ∀ p, p ∉ fts → c'.G p = none → c.G p = none := fun p hp h => by rw [Gn p hp] at h; exact h
  have keepT : ∀ p ∈ fts, ∀ u, H p = some u → upd H'' a ho p = some u := fun p hp u hu => by
    rw [upd_ne (fun z => na_t (by rw [← z]; exact hp))]
    exact R2.g p u (by rw [Gt p hp]; exact hu)
  refine ⟨hH''a, ⟨fun p u hu => ?_, R.f0.trans eF3, fun p u hu => ?_, fun p hp => ?_, hs3, fts ++ fs3, y1, ?_, ?_, fun p hp => ?_⟩, eF3, fun x2 p u hu => ?_, fun d v hd hr => rep_rm kk d v hd hr⟩
  · have hnt : p ∉ fts := fun h => by rw [(hFt p h).2] at hu; cases hu
    rw [upd_ne (fun z => by rw [z, haf.2] at hu; cases hu)]
    exact R2.g p u (by rw [Gn p hnt]; exact hu)
  · unfold rmF at hu
    by_cases hk : p ∈ fk
    · rw [if_pos hk] at hu; cases hu
    · rw [if_neg hk] at hu
      rw [upd_ne (fun z => hk (by rw [z]; exact hak))]
      exact R2.fh p u hu
  · have hk : p ∉ fk := fun hk => hp (if_pos hk)
    have hp' : F'' p ≠ none := by
      unfold rmF at hp
      rwa [if_neg hk] at hp
    rcases R2.nw p hp' with z | z
    · exact .inl z
    · by_cases htp : p ∈ fts
      · rw [Gt p htp] at z; exact absurd z (hT p htp)
      · exact .inr (cG p htp z)
  · exact Held.join (Held.mono eF3 keepT ht) y2
  · have ndt : fts.Nodup := (List.nodup_append.mp h3).1
    have nd3 : fs3.Nodup := by
      refine y4.nodup_iff.mpr (List.nodup_append.mpr ⟨ndk, q3.sublist y3, fun p hp p' hp' z => ?_⟩)
      subst z
      exact ns'' p (y3.subset hp') hp
    refine List.nodup_append.mpr ⟨ndt, nd3, fun p hp p' hp' z => ?_⟩
    subst z
    rcases List.mem_append.mp (y4.mem_iff.mp hp') with h | h
    · exact dts p hp (kin p h)
    · exact nst p (y3.subset h) hp
  · rcases List.mem_append.mp hp with htp | h3p
    · refine ⟨?_, (hFt p htp).2⟩
      have hk : p ∉ fk := fun h => dts p htp (kin p h)
      unfold rmF
      rw [if_neg hk]
      cases hz : F'' p with
      | none => rfl
      | some w =>
        rcases R2.nw p (by rw [hz]; simp) with z | z
        · have : F p ≠ none := by
            cases q : c.F0 p with
            | none => exact absurd q z
            | some w => rw [R.f0 p w q]; simp
          exact absurd (hFt p htp).1 this
        · rw [Gt p htp] at z; exact absurd z (hT p htp)
    · rcases List.mem_append.mp (y4.mem_iff.mp h3p) with h | h
      · exact ⟨if_pos h, (hF p (kin p h)).2⟩
      · have hs := y3.subset h
        refine ⟨?_, cG p (nst p hs) (q4 p hs).2⟩
        unfold rmF
        rw [if_neg (ns'' p hs)]
        exact (q4 p hs).1
  · by_cases z : p = a
    · subst z
      rw [upd_same]
      rw [hHa] at hu
      exact hu
    · rw [upd_ne z]
      exact x2 p u (by rw [upd_ne z]; exact hu)
end
end DL

/-! DNH: for k in d, for v in d.values(): d a dict in an object that is held. -/
namespace DL
open PySem PySem.Spec PyProof.Rows L2 Evl
section
variable {X : Cx} {pins : List (Addr × Obj)} {σ : L2.St} {H : Hp} {s : Shared}
end

section
variable {X : Cx} {tg e : Expr} {td : TE}
end
/-! ### where the dict stands -/
def tS (P : L2.St → Hp → Addr → Prop) : TE := fun σ H Q => ∃ a, P σ H a ∧ Q (.ref a) H
structure Shp (X : Cx) (it : Expr) (i : Nat) (g : O → Option O) (P : L2.St → Hp → Addr → Prop) : Prop where
  pe : PE X it (tS P)
  loc : ∀ {F H : Hp} {σ : L2.St} {o : O} {v : V} {fs : List Addr} {kk : List D} {os : List O}, Own X.B F H o v fs → fs.Nodup → σ[i]? = some (some v) → g o = some (.dct kk os) → Ex F H →
    ∃ a ho xs r, H a = some ho ∧ DictAt X.B F a ho kk xs ∧ Owns X.B F H os xs r ∧ a ∈ fs ∧ ∀ H', (∀ p, p ≠ a → H' p = H p) → Ex F H' → P σ H' a
section
variable {X : Cx} {ex : Expr} {i : Nat}
end
/-! ### the loop -/
section
variable {X : Cx} {W : WX} {tg iter : Expr} {body : List Stmt} {pos apos cpos : Pos} {bind : D → Env → Option Env} {sl : List Nat} {db : SDen} {i : Nat} {ks : List Nat} {g : O → Option O} {P : L2.St → Hp → Addr → Prop}
end
end DL

/-! DNI: a dict display with one pair, its key a tuple. -/
namespace DL
open PySem PySem.Spec PyProof.Rows L2 Evl
section
variable {X : Cx} {W : WX} {pos : Pos}
end
end DL
/-! ### sum of a tuple of ints -/
namespace PySem
section
variable {prog : Program} {w : World} {A : Around} {E : Value → Shared → Prop} {s : Shared} {l : Addr} {xs : Array (Int × Tok)}
end
end PySem
namespace DL
open PySem PySem.Spec PyProof.Rows L2 Evl
section
variable {X : Cx}
@[simp] def sumTD : List D → Option D
  | [.tup ds] => (intsD ds).map fun is => .int is.sum
  | _ => none
end
end DL

/-! DNJ: list * int. -/
namespace DL
open PySem PySem.Spec PyProof.Rows L2 Evl
section
variable {X : Cx} {W : WX} {a b : Expr} {pos : Pos} {da : Den O} {db : Den D}
end
section
variable {q : Bool} {e : Env}
end
end DL

/-! DNK: sorted of tuples that begin with a pair of whole numbers, the pairs all unlike: what stands behind the pair does not matter. -/
namespace DL
open PySem PySem.W PySem.Spec PyProof.Rows L2 Evl
section
variable {X : Cx}
end
/-! ### at D -/
section
variable {X : Cx} {W : WX} {a : Expr} {x : Str} {p pos : Pos}
end
end DL

/-! DNL: C(k = e, ..): a new instance, all parameters keyword-only. -/
namespace DL
open PySem PySem.Spec PyProof.Rows L2 Evl
section
variable {X : Cx} {W : WX} {a : Expr} {pos p kpos : Pos} {x : Str} {k : Nat} {f C : Addr} {fd : FuncData} {ps : List Str} {fn : FDen}
structure DKR (X : Cx) (W : WX) (kws : List Keyword) (den : Den (List AR)) : Prop where
  run : PK X kws (rd relAR X.B W den)
end
/-! ### min, max of a list of whole numbers -/
def lmax : Int → List Int → Int
  | a, [] => a
  | a, b :: l => lmax (if a < b then b else a) l
theorem lmax_ok : ∀ (l : List Int) (a : Int), lmax a l ∈ a :: l ∧ ∀ y ∈ a :: l, y ≤ lmax a l
  | [], a => ⟨List.mem_cons_self, fun y h => by rw [List.mem_singleton.mp h]; exact Int.le_refl _⟩
  | b :: l, a => by
    obtain ⟨h1, h2⟩ := lmax_ok l (if a < b then b else a)
    show lmax (if a < b then b else a) l ∈ _ ∧ ∀ y ∈ _, y ≤ lmax (if a < b then b else a) l
    refine ⟨?_, fun y hy => ?_⟩
    · rcases List.mem_cons.mp h1 with h | h
      · rw [h]
        split
        · simp
        · simp
      · exact List.mem_cons_of_mem _ (List.mem_cons_of_mem _ h)
    · have h0 := h2 _ List.mem_cons_self
      rcases List.mem_cons.mp hy with e | hy
      · generalize lmax (if a < b then b else a) l = z at h0 ⊢
        split at h0 <;> omega
      rcases List.mem_cons.mp hy with e | hy
      · generalize lmax (if a < b then b else a) l = z at h0 ⊢
        split at h0 <;> omega
      · exact h2 y (List.mem_cons_of_mem _ hy)
def maxLD : List D → Option D
  | [.lst ds] => match intsD ds with
    | some (a :: l) => some (.int (lmax a l))
    | _ => none
  | _ => none
theorem ok_maxL {K : KB} : CallOkV K (rMax K) maxLD := by
  intro H xs ds d h hg
  unfold maxLD at hg
  split at hg
  · split at hg
    · rename_i a l hi
      cases hg
      obtain ⟨v, rfl, p, ys, rfl, h1, h2⟩ := reps1 h
      have e := reps_ints h2 hi
      subst e
      refine ⟨.int _, fun _ => rfl, fun Q q => ⟨p, a :: l, rfl, SqL.of h1, Nat.succ_pos _, fun m hm hle => ?_⟩⟩
      obtain ⟨k1, k2⟩ := lmax_ok l a
      have : m = lmax a l := Int.le_antisymm (k2 _ hm) (hle _ k1)
      rw [this]
      exact q
    · cases hg
  · cases hg
end DL

/-! DNN: name += whole number; a product of two long numbers; the end of a law whose script's bits are told. -/
namespace DL
open PySem PySem.Spec PyProof.Rows L2 Evl
/-- `x += e`, both whole numbers -/
def saug (i : Nat) (de : Den D) : SDen := fun e => match e[i]? with
  | some (some (_, .im (.int a))) => sbind de (fun d e' => match d with
    | .int b => if e'.free i = true then some (.nx false (e'.set i (some (false, .im (.int (a + b)))))) else none
    | _ => none) e
  | _ => none
def mulXD : D → D → Option D
  | .int i, .int j => if (Builtin.Int.intBits i : Int) + (Builtin.Int.intBits j : Int) ≤ 134217728 then some (.int (i * j)) else none
  | _, _ => none
section
variable {X : Cx} {W : WX} {ex a b : Expr} {pos : Pos}
theorem ds_aug {i : Nat} {x : Str} {pos' : Pos} {de : Den D} (hN : X.N.Nodup) (hi : X.N[i]? = some x) (hx : Loc X.env.scope x) (h : DI X W ex de)
    (hf : X.fn x = true ∨ X.env.scope.names.lookup x = some .local := by first | exact .inl rfl | exact .inr rfl | assumption) : DS X W (.AugAssign (.Name x pos') .Add ex pos) (saug i de) := ⟨ps_weak (ps_aug (i := i) hN hi hx h.run ip_add hf) fun D σ H q => by
  obtain ⟨c, F, e, ts, R, r, hr, post⟩ := q
  unfold saug at hr
  split at hr
  · rename_i bb a he
    obtain ⟨v, hv, rv⟩ := R.slotIm he
    have hva : v = .int a := by cases rv; rfl
    subst hva
    refine ⟨.int a, hv, c, F, e, ts, R, AtS.sbind (rel := relI) ⟨r, hr, post⟩ fun F1 H1 e1 d v ef hr1 q1 => ?_⟩
    obtain ⟨r2, hr2, post2⟩ := q1
    dsimp only at hr2
    split at hr2
    · rename_i b
      split at hr2
      · rename_i hfree
        cases hr2
        have hvb : v = .int b := by cases hr1.2; rfl
        subst hvb
        exact ⟨a, b, rfl, rfl, post2 F1 H1 _ (Ex.refl _) (fun _ => Ex.refl _) (hr1.1.setIm hfree (by constructor))⟩
      · cases hr2
    · cases hr2
  · cases hr⟩
theorem ok_mulX {K : KB} : OpOk K (rI CMulX fun i j => V.int (i * j)) mulXD := by
  intro F H x y dx dy d fh h1 h2 hg Q k
  unfold mulXD at hg
  split at hg
  · split at hg
    · rename_i i j hz
      cases hg
      exact ⟨i, j, h1, h2, hz, ok_of_int fh k⟩
    · cases hg
  · cases hg
theorem di_mulX {da db : Den D} (ha : DI X W a da) (hb : DI X W b db) : DI X W (.BinOp a .Mult b pos) (dbin da db mulXD) := di_op op_mulX ok_mulX ha hb
end
/-! ### steps -/
theorem w_aug {e : Env} {i : Nat} {de : Den D} {A : Aft} {bb : Bool} {a : Int} (h : e[i]? = some (some (bb, .im (.int a)))) (p : EW false de e fun d e' => ∃ b, d = .int b ∧ e'.free i = true ∧ A.N (e'.set i (some (false, .im (.int (a + b)))))) : SW (saug i de) e A := by
  unfold SW saug
  rw [h]
  show SW (sbind de _) e A
  refine sw_bind.mpr (ew_imp p ?_)
  rintro d e' ⟨b, rfl, hf, hN⟩
  exact ⟨_, if_pos hf, hN⟩
theorem op_mulXD {i j : Int} {a b : Nat} {P : D → Prop} (ha : i.natAbs < 2 ^ a) (hb : j.natAbs < 2 ^ b) (h : a + b ≤ 134217728) (p : P (.int (i * j))) : OP (mulXD (.int i) (.int j)) P := ⟨_, if_pos (mulx_ok ha hb h), p⟩
/-- the most bits of a script's number -/
def mostBits : Nat := 1048576
theorem lt_bits {z : Int} {n : Nat} (h : Builtin.Int.intBits z ≤ n) : z.natAbs < 2 ^ n := by
  unfold Builtin.Int.intBits at h
  split at h
  · rename_i h0
    have : z.natAbs = 0 := by simpa using h0
    rw [this]
    exact Nat.two_pow_pos n
  · exact Nat.lt_of_lt_of_le Nat.lt_log2_self (Nat.pow_le_pow_right (by decide) h)
/-- walkD, with the script's bits told -/
theorem walkDB {α : Type} {l : PySem.W.OpenLaw} {k : Nat} {q : Program} {loose : List Str} {XP : (Str → Option Value) → Heap → Prop} {YP : World → Heap → Prop} {d : DefRec} {K : Params → PySem.W.Frag} {x : Str} {f : α → FDen} {G : α → Prop} (hn : l.most = some 63) (hdf : d.params.defaults = []) (hroom : Room k callerA)
    (hY : ∀ (w : World) (h : Heap), YP w h → (K w.params).In h) (hf : ∀ A, G A → ∀ ns : List Int, ns.length ≤ 63 → (∀ z ∈ ns, z.natAbs < 2 ^ mostBits) → ∃ m os, f A [.im (.scr (ns.map D.int))] = some (.ok m os (.im (.bl true))))
    (F : ∀ (w : World) (mg : Str → Option Value) (fa : Addr) (h : Heap), (K w.params).In h → h.Ns mainGlobals mg → mg d.name = some (.ref fa) →
      ∃ (fd : FuncData) (A : α), G A ∧ (∀ (s : Shared) (u : Value), BindsTo s fd ⟨[u], []⟩ [(x, u)]) ∧ ∀ base : Heap, (K w.params).In base → base.Ns mainGlobals mg → FnOk l.prog w (K w.params) mg base (L2.CX l.prog w) k fa fd [x] (spD ⟨K w.params, l.prog, w, mg⟩ 1 (f A))) :
    PySem.W.WalkO q loose XP YP l.row.toRowW d [] (fun f vs => PySem.call f vs) :=
  L2.walk_ofB (n := 63) (k := k) (x := x) (CX := fun w => L2.CX l.prog w) (sp := fun w vs H Q E => vs.length = 1 ∧ ∀ mg A, G A → spD ⟨K w.params, l.prog, w, mg⟩ 1 (f A) vs H Q E) hn (by decide) hdf hroom hY (fun w mg fa h h1 h2 h3 => by
      obtain ⟨fd, A, gA, hb, hF⟩ := F w mg fa h h1 h2 h3
      exact ⟨fd, hb, fun base b1 b2 => (hF base b1 b2).imp fun vs H Q E z => z.2 mg A gA⟩) (fun _ _ a ns hl hbits _ hS => ⟨rfl, fun _ A gA => law_spec hS (hf A gA ns hl fun z hz => lt_bits (hbits z hz))⟩) fun _ _ _ _ _ z => by
    obtain ⟨_, _, _, _, _, _, _, _, _, _, _, _, z⟩ := z
    exact z
end DL

namespace K73
open PySem PySem.Spec PyProof.Rows L2 Evl DL
/-- _law_numbers: 0 _law_cell_here, 1 _law_many, 2 _law_size, 3 _law_rest, 4 _law_numbers_here, 5 _law_k, 6 _law_mixed -/
noncomputable def d__law_numbers : SDen := (sseq (sset 2 (imR (dbind (dconsV (vw (dvar 0)) (dpure [])) fun vs => dlift (absD vs)))) (sseq (sset 3 (imR (frz (dvar 2)))) (sseq (sset 4 (dlst (dpure []))) (sseq (sforP (rg rng1D (dcons (frz (dvar 1)) (dpure []))) (bName 5) (sif (dand (dtB (dcmp (vw (dvar 2)) (dbin (dpure (.int 10)) (dpure (.int 18)) powD) geD)) (dtB (dcmp (vw (dvar 3)) (dpure (.int 0)) gtD))) (sseq (sapp 4 (imR (dbin (dbind (dconsV (vw (dvar 3)) (dpure [])) fun vs => dlift (intD vs)) (dpure (.int 1000)) modD))) (sset 3 (imR (dbin (frz (dvar 3)) (dpure (.int 1000)) divD)))) (sseq (sset 6 (imR (dbin (dbind (dconsV (dbin (dbin (dbin (frz (dvar 2)) (dpure (.int 48271)) mulD) (dbin (frz (dvar 5)) (dpure (.int 69621)) mulD) addD) (dpure (.int 11)) addD) (dpure [])) fun vs => dlift (intD vs)) (dpure (.int 2147483647)) modD))) (sseq (sset 6 (imR (dbin (dbind (dconsV (dbin (dbin (dbin (frz (dvar 6)) (frz (dvar 6)) mulD) (dbin (dpure (.int 40692)) (frz (dvar 5)) mulD) addD) (dpure (.int 3)) addD) (dpure [])) fun vs => dlift (intD vs)) (dpure (.int 2147483629)) modD))) (sapp 4 (imR (dbin (dbind (dconsV (dbin (frz (dvar 6)) (dpure (.int 7)) divD) (dpure [])) fun vs => dlift (intD vs)) (dpure (.int 1000)) modD))))))) (srt (dvar 4))))))
noncomputable def f__law_numbers : FDen := fnden 7 (d__law_numbers)
/-- _law_cell: 0 _law_script, 1 _law_k -/
noncomputable def d__law_cell : SDen := (sseq (sif (dtB (dcmp (vw (dvar 1)) (dbind (dconsV (vw (dvar 0)) (dpure [])) fun vs => dlift (lenD vs)) ltD)) (srt (imR (imD (dixO (ow (dvar 0)) (frz (dvar 1)))))) snext) (srt (imR (dpure (.int 0)))))
noncomputable def f__law_cell : FDen := fnden 2 (d__law_cell)
/-- _law_tape: 0 _law_script, 1 _law_first, 2 _law_others, 3 _law_numbers_here, 4 _law_cell_here -/
noncomputable def d__law_tape : SDen := (sseq (sset 3 (imR (frz (dbind (darcons (dbind (darcons (dvar 0) (darcons (imR (dpure (.int 0))) (dpure []))) fun as => dfnA 2 (f__law_cell) as) (darcons (dvar 1) (dpure []))) fun as => dfnA 2 (f__law_numbers) as)))) (sseq (sforP (sq (frz (dslice (ow (dvar 0)) (dbind (dpure (.int 1)) fun d => dlift (partD d)) (dpure none)))) (bName 4) (sset 3 (imR (frz (dcat (ow (dvar 3)) (ow (dbind (darcons (imR (frz (dvar 4))) (darcons (dvar 2) (dpure []))) fun as => dfnA 2 (f__law_numbers) as))))))) (srt (dvar 3))))
noncomputable def f__law_tape : FDen := fnden 5 (d__law_tape)
/-- _law_odd: 0 _law_number, 1 _law_odd_here -/
noncomputable def d__law_odd : SDen := (sseq (sset 1 (imR (frz (dlst (dcons (dpure (.str "")) (dcons (dpure (.str "-")) (dcons (dpure (.str "-0")) (dcons (dpure (.str "00")) (dcons (dpure (.str "01")) (dcons (dpure (.str "0")) (dcons (dpure (.str "0:")) (dcons (dpure (.str "1:")) (dcons (dpure (.str " ")) (dcons (dpure (.str "T ")) (dcons (dpure (.str "( )")) (dcons (dpure (.str "()")) (dcons (dpure (.str "(T F)")) (dcons (dpure (.str "(T  F)")) (dcons (dpure (.str "(TF)")) (dcons (dpure (.str "(1 )")) (dpure []))))))))))))))))))))) (sseq (sset 1 (imR (frz (dcat (ow (dvar 1)) (ow (dlst (dcons (dbin (dpure (.str "9")) (dpure (.int 59)) mulS) (dcons (dbin (dpure (.str "9")) (dpure (.int 60)) mulS) (dcons (dbin (dpure (.str "1")) (dbin (dpure (.str "0")) (dpure (.int 60)) mulS) addD) (dcons (dbin (dpure (.str "-")) (dbin (dpure (.str "8")) (dpure (.int 60)) mulS) addD) (dcons (dbin (dpure (.str "-")) (dbin (dpure (.str "8")) (dpure (.int 61)) mulS) addD) (dcons (dpure (.str "-1:a")) (dcons (dpure (.str "012")) (dcons (dpure (.str "01:a")) (dpure []))))))))))))))) (sseq (sset 1 (imR (frz (dcat (ow (dvar 1)) (ow (dlst (dcons (dbin (dpure (.str "1000:")) (dbin (dpure (.str "a")) (dpure (.int 1000)) mulS) addD) (dcons (dbin (dpure (.str "1000:")) (dbin (dpure (.str "b")) (dpure (.int 999)) mulS) addD) (dcons (dbin (dpure (.str "1001:")) (dbin (dpure (.str "c")) (dpure (.int 1001)) mulS) addD) (dcons (dbin (dpure (.str "999:")) (dbin (dpure (.str ")")) (dpure (.int 999)) mulS) addD) (dpure []))))))))))) (sseq (sset 1 (imR (frz (dcat (ow (dvar 1)) (ow (dlst (dcons (dbin (dbin (dpure (.str "(")) (dpure (.int 12)) mulS) (dbin (dpure (.str ")")) (dpure (.int 12)) mulS) addD) (dcons (dbin (dbin (dpure (.str "(")) (dpure (.int 13)) mulS) (dbin (dpure (.str ")")) (dpure (.int 13)) mulS) addD) (dcons (dbin (dbin (dbin (dpure (.str "(")) (dpure (.int 11)) mulS) (dpure (.str "()")) addD) (dbin (dpure (.str ")")) (dpure (.int 10)) mulS) addD) (dcons (dbin (dbin (dpure (.str "(")) (dpure (.int 12)) mulS) (dbin (dpure (.str ")")) (dpure (.int 13)) mulS) addD) (dpure []))))))))))) (srt (imR (imD (dixO (ow (dvar 1)) (dbin (dbind (dconsV (vw (dvar 0)) (dpure [])) fun vs => dlift (intD vs)) (dpure (.int 32)) modD)))))))))
noncomputable def f__law_odd : FDen := fnden 2 (d__law_odd)
/-- _law_written: 0 _law_value_here, 1 _law_item -/
noncomputable def d__law_written (rec : FDen) : SDen := (sseq (sif (dtru (dbind (dconsV (vw (dvar 0)) (dconsV (dpure (.ty "bool")) (dpure []))) fun vs => dlift (isiD vs))) (srt (imR (imD (dixO (ow (dlst (dcons (dpure (.str "F")) (dcons (dpure (.str "T")) (dpure []))))) (dbind (dconsV (vw (dvar 0)) (dpure [])) fun vs => dlift (intD vs)))))) snext) (sseq (sif (dtru (dbind (dconsV (vw (dvar 0)) (dconsV (dpure (.ty "int")) (dpure []))) fun vs => dlift (isiD vs))) (srt (imR (dbind (dconsV (vw (dvar 0)) (dpure [])) fun vs => dlift (strD vs)))) snext) (sseq (sif (dtru (dbind (dconsV (vw (dvar 0)) (dconsV (dpure (.ty "str")) (dpure []))) fun vs => dlift (isiD vs))) (srt (imR (dbin (dbin (dbind (dconsV (dbind (dconsV (vw (dvar 0)) (dpure [])) fun vs => dlift (lenD vs)) (dpure [])) fun vs => dlift (strD vs)) (dpure (.str ":")) addD) (frz (dvar 0)) addD))) snext) (sseq (sif (dtru (dbind (dconsV (vw (dvar 0)) (dconsV (dpure (.ty "tuple")) (dpure []))) fun vs => dlift (isiD vs))) (srt (imR (dbin (dbin (dpure (.str "(")) (djoin (dpure (.str " ")) (vw (dcomp (sq (frz (dvar 0))) (bName 1) (dpure true) (imR (frz (dbind (darcons (imR (frz (dvar 1))) (dpure [])) fun as => dfnA 1 rec as))) [1]))) addD) (dpure (.str ")")) addD))) snext) (srt (imR (dpure (.str "?"))))))))
noncomputable def f__law_written : Nat → FDen
  | 0 => fnden 2 (sseq (fun _ => none) (sseq (fun _ => none) (sseq (fun _ => none) (sseq (fun _ => none) (fun _ => none)))))
  | j + 1 => fnden 2 (d__law_written (f__law_written j))
/-- _law_integer: 0 _law_cell_here, 1 _law_number, 2 _law_part, 3 _law_great -/
noncomputable def d__law_integer : SDen := (sseq (sset 2 (imR (dbin (frz (dvar 1)) (dpure (.int 8)) divD))) (sseq (sif (dtB (dcmp (dbin (frz (dvar 2)) (dpure (.int 3)) modD) (dpure (.int 0)) eqD)) (srt (imR (dbin (frz (dvar 2)) (dpure (.int 60)) subD))) snext) (sseq (sset 3 (imR (dbin (dbind (dconsV (dbin (dbin (dbind (dconsV (vw (dvar 0)) (dpure [])) fun vs => dlift (absD vs)) (frz (dvar 2)) addD) (imD (dixO (ow (dlst (dcons (dbin (dpure (.int 10)) (dpure (.int 4)) powD) (dcons (dbin (dpure (.int 10)) (dpure (.int 17)) powD) (dcons (dbin (dpure (.int 10)) (dpure (.int 39)) powD) (dcons (dbin (dpure (.int 10)) (dpure (.int 57)) powD) (dpure []))))))) (dbin (dbind (dconsV (dbin (frz (dvar 2)) (dpure (.int 3)) divD) (dpure [])) fun vs => dlift (intD vs)) (dpure (.int 4)) modD))) mulXD) (dpure [])) fun vs => dlift (intD vs)) (dbin (dpure (.int 10)) (dpure (.int 60)) powD) modD))) (sseq (sif (dtB (dcmp (dbin (frz (dvar 2)) (dpure (.int 5)) modD) (dpure (.int 0)) eqD)) (sset 3 (imR (dbin (dbin (dbin (dpure (.int 10)) (dpure (.int 60)) powD) (dpure (.int 1)) subD) (frz (dvar 3)) subD))) snext) (sseq (sif (dtB (dcmp (dbin (frz (dvar 2)) (dpure (.int 2)) modD) (dpure (.int 0)) eqD)) (srt (imR (dbind (frz (dvar 3)) fun x => dlift (negD x)))) snext) (srt (dvar 3)))))))
noncomputable def f__law_integer : FDen := fnden 4 (d__law_integer)
/-- _law_char: 0 _law_number, 1 _law_chars -/
noncomputable def d__law_char : SDen := (sseq (sset 1 (imR (dpure (.str " !\"#$&'()*+,-./0123456789:;<=>?@ABCDEFGHIJKLMNOPQRSTUVWXYZ[\\]^_`")))) (sseq (sset 1 (imR (dbin (frz (dvar 1)) (dpure (.str "abcdefghijklmnopqrstuvwxyz{|}~")) addD))) (srt (imR (imD (dixO (ow (dvar 1)) (dbin (dbind (dconsV (vw (dvar 0)) (dpure [])) fun vs => dlift (intD vs)) (dpure (.int 94)) modD)))))))
noncomputable def f__law_char : FDen := fnden 2 (d__law_char)
/-- _law_text: 0 _law_number, 1 _law_size, 2 _law_k -/
noncomputable def d__law_text : SDen := (sseq (sif (dtB (dcmp (dbin (frz (dvar 0)) (dpure (.int 3)) modD) (dpure (.int 0)) eqD)) (srt (imR (djoin (dpure (.str "")) (vw (dcomp (rg rng1D (dcons (frz (dvar 1)) (dpure []))) (bName 2) (dpure true) (imR (imD (dixO (ow (imR (dpure (.str "():0 T-1")))) (dbin (dbind (dconsV (dbin (dbin (frz (dvar 0)) (dpure (.int 3)) divD) (dbin (frz (dvar 2)) (dbin (dbin (frz (dvar 0)) (dpure (.int 24)) divD) (dpure (.int 1)) addD) mulD) addD) (dpure [])) fun vs => dlift (intD vs)) (dpure (.int 8)) modD)))) [2]))))) snext) (srt (imR (djoin (dpure (.str "")) (vw (dcomp (rg rng1D (dcons (frz (dvar 1)) (dpure []))) (bName 2) (dpure true) (imR (frz (dbind (darcons (imR (dbin (frz (dvar 0)) (dbin (frz (dvar 2)) (dbin (dbin (frz (dvar 0)) (dpure (.int 5)) divD) (dpure (.int 1)) addD) mulD) addD)) (dpure [])) fun as => dfnA 1 (f__law_char) as))) [2]))))))
noncomputable def f__law_text : FDen := fnden 3 (d__law_text)
/-- _law_leaf: 0 _law_cell_here, 1 _law_number, 2 _law_part, 3 _law_size -/
noncomputable def d__law_leaf : SDen := (sseq (sset 2 (imR (dbin (frz (dvar 1)) (dpure (.int 8)) divD))) (sseq (sif (dtB (dcmp (dbin (frz (dvar 1)) (dpure (.int 8)) modD) (dpure (.int 0)) eqD)) (srt (imR (dcmp (dbin (frz (dvar 2)) (dpure (.int 2)) modD) (dpure (.int 0)) eqD))) snext) (sseq (sif (dor (dtB (dcmp (dbin (frz (dvar 1)) (dpure (.int 8)) modD) (dpure (.int 1)) eqD)) (dtB (dcmp (dbin (frz (dvar 1)) (dpure (.int 8)) modD) (dpure (.int 2)) eqD))) (srt (dbind (darcons (dvar 0) (darcons (dvar 1) (dpure []))) fun as => dfnA 2 (f__law_integer) as)) snext) (sseq (sset 3 (imR (dbin (frz (dvar 2)) (dpure (.int 13)) modD))) (sseq (sif (dtB (dcmp (dbin (frz (dvar 2)) (dpure (.int 9)) modD) (dpure (.int 1)) eqD)) (sset 3 (imR (imD (dixO (ow (dlst (dcons (dpure (.int 0)) (dcons (dpure (.int 1)) (dcons (dpure (.int 9)) (dcons (dpure (.int 10)) (dcons (dpure (.int 99)) (dcons (dpure (.int 100)) (dcons (dpure (.int 999)) (dcons (dpure (.int 1000)) (dpure []))))))))))) (dbin (dbind (dconsV (dbin (frz (dvar 2)) (dpure (.int 9)) divD) (dpure [])) fun vs => dlift (intD vs)) (dpure (.int 8)) modD))))) snext) (srt (dbind (darcons (dvar 1) (darcons (imR (frz (dvar 3))) (dpure []))) fun as => dfnA 2 (f__law_text) as)))))))
noncomputable def f__law_leaf : FDen := fnden 4 (d__law_leaf)
/-- _law_value: 0 _law_script, 1 _law_numbers_here, 2 _law_values, 3 _law_depths, 4 _law_k, 5 _law_number, 6 _law_many, 7 _law_depth, 8 _law_taken -/
noncomputable def d__law_value : SDen := (sseq (sset 2 (dlst (dpure []))) (sseq (sset 3 (dlst (dpure []))) (sseq (sforP (rg rng1D (dcons (dbind (dconsV (vw (dvar 1)) (dpure [])) fun vs => dlift (lenD vs)) (dpure []))) (bName 4) (sseq (sset 5 (imR (imD (dixO (ow (dvar 1)) (frz (dvar 4)))))) (sseq (sset 6 (imR (dpure (.int 0)))) (sseq (sif (dor (dtB (dcmp (dbin (frz (dvar 5)) (dpure (.int 8)) modD) (dpure (.int 5)) eqD)) (dtB (dcmp (dbin (frz (dvar 5)) (dpure (.int 8)) modD) (dpure (.int 6)) eqD))) (sset 6 (imR (dbind (dconsV (dbin (dbin (frz (dvar 5)) (dpure (.int 8)) divD) (dpure (.int 6)) modD) (dconsV (dbind (dconsV (vw (dvar 2)) (dpure [])) fun vs => dlift (lenD vs)) (dpure []))) fun vs => dlift (minD vs)))) snext) (sseq (sif (dtB (dcmp (dbin (frz (dvar 5)) (dpure (.int 8)) modD) (dpure (.int 7)) eqD)) (sset 6 (imR (dbind (dconsV (dpure (.int 1)) (dconsV (dbind (dconsV (vw (dvar 2)) (dpure [])) fun vs => dlift (lenD vs)) (dpure []))) fun vs => dlift (minD vs)))) snext) (sseq (sset 7 (imR (dbin (dbind (dconsV (vw (dcat (ow (dlst (dcons (dpure (.int 0)) (dpure [])))) (ow (dslice (ow (dvar 3)) (dbind (dbin (dbind (dconsV (vw (dvar 2)) (dpure [])) fun vs => dlift (lenD vs)) (frz (dvar 6)) subD) fun d => dlift (partD d)) (dpure none))))) (dpure [])) fun vs => dlift (maxLD vs)) (dpure (.int 1)) addD))) (sif (dand (dtB (dcmp (dbin (frz (dvar 5)) (dpure (.int 8)) modD) (dpure (.int 5)) geD)) (dtB (dcmp (vw (dvar 7)) (dpure (.int 11)) leD))) (sseq (sset 8 (imR (frz (dslice (ow (dvar 2)) (dbind (dbin (dbind (dconsV (vw (dvar 2)) (dpure [])) fun vs => dlift (lenD vs)) (frz (dvar 6)) subD) fun d => dlift (partD d)) (dpure none))))) (sseq (sset 2 (dcat (ow (dslice (ow (dvar 2)) (dpure none) (dbind (dbin (dbind (dconsV (vw (dvar 2)) (dpure [])) fun vs => dlift (lenD vs)) (frz (dvar 6)) subD) fun d => dlift (partD d)))) (ow (dlst (dcons (dtupV (ow (dvar 8))) (dpure [])))))) (sset 3 (dcat (ow (dslice (ow (dvar 3)) (dpure none) (dbind (dbin (dbind (dconsV (vw (dvar 3)) (dpure [])) fun vs => dlift (lenD vs)) (frz (dvar 6)) subD) fun d => dlift (partD d)))) (ow (dlst (dcons (frz (dvar 7)) (dpure [])))))))) (sseq (sapp 2 (imR (frz (dbind (darcons (dbind (darcons (dvar 0) (darcons (imR (frz (dvar 4))) (dpure []))) fun as => dfnA 2 (f__law_cell) as) (darcons (imR (frz (dvar 5))) (dpure []))) fun as => dfnA 2 (f__law_leaf) as)))) (sapp 3 (imR (dpure (.int 0)))))))))))) (sseq (sif (dtB (dcmp (dbind (dconsV (vw (dvar 2)) (dpure [])) fun vs => dlift (lenD vs)) (dpure (.int 1)) eqD)) (srt (imR (imD (dixO (ow (dvar 2)) (dpure (.int 0)))))) snext) (srt (imR (dtupV (ow (dvar 2)))))))))
noncomputable def f__law_value : FDen := fnden 9 (d__law_value)
/-- _law_spoilt: 0 _law_text_here, 1 _law_way, 2 _law_number, 3 _law_sign, 4 _law_place -/
noncomputable def d__law_spoilt : SDen := (sseq (sset 3 (imR (imD (dixO (ow (imR (dpure (.str "()0123456789:- TFa")))) (dbin (dbind (dconsV (dbin (frz (dvar 2)) (dpure (.int 7)) divD) (dpure [])) fun vs => dlift (intD vs)) (dpure (.int 18)) modD))))) (sseq (sset 4 (imR (dbin (dbind (dconsV (dbin (dbin (frz (dvar 2)) (dpure (.int 31)) mulD) (dbin (frz (dvar 2)) (dpure (.int 18)) divD) addD) (dpure [])) fun vs => dlift (intD vs)) (dbin (dbind (dconsV (vw (dvar 0)) (dpure [])) fun vs => dlift (lenD vs)) (dpure (.int 1)) addD) modD))) (sseq (sif (dtB (dcmp (dbin (frz (dvar 1)) (dpure (.int 6)) modD) (dpure (.int 0)) eqD)) (srt (imR (dbin (frz (dslice (ow (dvar 0)) (dpure none) (dbind (frz (dvar 4)) fun d => dlift (partD d)))) (frz (dslice (ow (dvar 0)) (dbind (dbin (frz (dvar 4)) (dpure (.int 1)) addD) fun d => dlift (partD d)) (dpure none))) addD))) snext) (sseq (sif (dtB (dcmp (dbin (frz (dvar 1)) (dpure (.int 6)) modD) (dpure (.int 1)) eqD)) (srt (imR (dbin (dbin (frz (dslice (ow (dvar 0)) (dpure none) (dbind (frz (dvar 4)) fun d => dlift (partD d)))) (frz (dvar 3)) addD) (frz (dslice (ow (dvar 0)) (dbind (frz (dvar 4)) fun d => dlift (partD d)) (dpure none))) addD))) snext) (sseq (sif (dtB (dcmp (dbin (frz (dvar 1)) (dpure (.int 6)) modD) (dpure (.int 2)) eqD)) (srt (imR (dbin (dbin (frz (dslice (ow (dvar 0)) (dpure none) (dbind (frz (dvar 4)) fun d => dlift (partD d)))) (frz (dvar 3)) addD) (frz (dslice (ow (dvar 0)) (dbind (dbin (frz (dvar 4)) (dpure (.int 1)) addD) fun d => dlift (partD d)) (dpure none))) addD))) snext) (sseq (sif (dtB (dcmp (dbin (frz (dvar 1)) (dpure (.int 6)) modD) (dpure (.int 3)) eqD)) (srt (imR (dbin (dbin (frz (dslice (ow (dvar 0)) (dpure none) (dbind (frz (dvar 4)) fun d => dlift (partD d)))) (frz (dslice (ow (dvar 0)) (dbind (frz (dvar 4)) fun d => dlift (partD d)) (dbind (dbin (frz (dvar 4)) (dpure (.int 1)) addD) fun d => dlift (partD d)))) addD) (frz (dslice (ow (dvar 0)) (dbind (frz (dvar 4)) fun d => dlift (partD d)) (dpure none))) addD))) snext) (sseq (sif (dtB (dcmp (dbin (frz (dvar 1)) (dpure (.int 6)) modD) (dpure (.int 4)) eqD)) (srt (imR (dbin (dbin (dbin (frz (dslice (ow (dvar 0)) (dpure none) (dbind (frz (dvar 4)) fun d => dlift (partD d)))) (frz (dslice (ow (dvar 0)) (dbind (dbin (frz (dvar 4)) (dpure (.int 1)) addD) fun d => dlift (partD d)) (dbind (dbin (frz (dvar 4)) (dpure (.int 2)) addD) fun d => dlift (partD d)))) addD) (frz (dslice (ow (dvar 0)) (dbind (frz (dvar 4)) fun d => dlift (partD d)) (dbind (dbin (frz (dvar 4)) (dpure (.int 1)) addD) fun d => dlift (partD d)))) addD) (frz (dslice (ow (dvar 0)) (dbind (dbin (frz (dvar 4)) (dpure (.int 2)) addD) fun d => dlift (partD d)) (dpure none))) addD))) snext) (srt (dslice (ow (dvar 0)) (dpure none) (dbind (frz (dvar 4)) fun d => dlift (partD d)))))))))))
noncomputable def f__law_spoilt : FDen := fnden 5 (d__law_spoilt)
/-- _law_drawn_text: 0 _law_script, 1 _law_numbers_here, 2 _law_many, 3 _law_text_here, 4 _law_k -/
noncomputable def d__law_drawn_text : SDen := (sseq (sif (dtB (dcmp (dbin (imD (dixO (ow (dvar 1)) (dpure (.int 0)))) (dpure (.int 8)) modD) (dpure (.int 1)) eqD)) (srt (dbind (darcons (imR (imD (dixO (ow (dvar 1)) (dpure (.int 1))))) (dpure [])) fun as => dfnA 1 (f__law_odd) as)) snext) (sseq (sif (dtB (dcmp (dbin (imD (dixO (ow (dvar 1)) (dpure (.int 0)))) (dpure (.int 8)) modD) (dpure (.int 2)) eqD)) (sseq (sset 2 (imR (dbind (dconsV (dbin (imD (dixO (ow (dvar 1)) (dpure (.int 1)))) (dpure (.int 61)) modD) (dconsV (dbin (dbind (dconsV (vw (dvar 1)) (dpure [])) fun vs => dlift (lenD vs)) (dpure (.int 2)) subD) (dpure []))) fun vs => dlift (minD vs)))) (srt (imR (djoin (dpure (.str "")) (vw (dcomp (rg rng1D (dcons (frz (dvar 2)) (dpure []))) (bName 4) (dpure true) (imR (imD (dixO (ow (imR (dpure (.str "()0123456789:- TFa")))) (dbin (dbind (dconsV (fl (dixO (ow (dvar 1)) (dbin (frz (dvar 4)) (dpure (.int 2)) addD))) (dpure [])) fun vs => dlift (intD vs)) (dpure (.int 18)) modD)))) [4])))))) snext) (sseq (sset 3 (imR (frz (dbind (darcons (dbind (darcons (dvar 0) (darcons (dslice (ow (dvar 1)) (dbind (dpure (.int 9)) fun d => dlift (partD d)) (dpure none)) (dpure []))) fun as => dfnA 2 (f__law_value) as) (dpure [])) fun as => dfnA 1 (f__law_written 20) as)))) (sseq (sif (dtB (dcmp (dbin (imD (dixO (ow (dvar 1)) (dpure (.int 0)))) (dpure (.int 8)) modD) (dpure (.int 3)) eqD)) (sset 3 (imR (dbin (dbin (dbin (dpure (.str "(")) (dbin (dbin (imD (dixO (ow (dvar 1)) (dpure (.int 2)))) (dpure (.int 3)) modD) (dpure (.int 9)) addD) mulS) (frz (dvar 3)) addD) (dbin (dpure (.str ")")) (dbin (dbin (imD (dixO (ow (dvar 1)) (dpure (.int 3)))) (dpure (.int 3)) modD) (dpure (.int 9)) addD) mulS) addD))) snext) (sseq (sforP (rg rng1D (dcons (dbin (imD (dixO (ow (dvar 1)) (dpure (.int 4)))) (dpure (.int 4)) modD) (dpure []))) (bName 4) (sset 3 (imR (frz (dbind (darcons (imR (frz (dvar 3))) (darcons (imR (imD (dixO (ow (dvar 1)) (dbin (dpure (.int 5)) (frz (dvar 4)) addD)))) (darcons (imR (imD (dixO (ow (dvar 1)) (dbin (dpure (.int 6)) (frz (dvar 4)) addD)))) (dpure [])))) fun as => dfnA 3 (f__law_spoilt) as))))) (srt (dvar 3)))))))
noncomputable def f__law_drawn_text : FDen := fnden 5 (d__law_drawn_text)
/-- _law_atom_end: 0 _law_text_here, 1 _law_at, 2 _law_start, 3 _law_end, 4 _law_k -/
noncomputable def d__law_atom_end : SDen := (sseq (sif (dor (dtB (dcmp (vw (dslice (ow (dvar 0)) (dbind (frz (dvar 1)) fun d => dlift (partD d)) (dbind (dbin (frz (dvar 1)) (dpure (.int 1)) addD) fun d => dlift (partD d)))) (dpure (.str "T")) eqD)) (dtB (dcmp (vw (dslice (ow (dvar 0)) (dbind (frz (dvar 1)) fun d => dlift (partD d)) (dbind (dbin (frz (dvar 1)) (dpure (.int 1)) addD) fun d => dlift (partD d)))) (dpure (.str "F")) eqD))) (srt (imR (dbin (frz (dvar 1)) (dpure (.int 1)) addD))) snext) (sseq (sset 2 (imR (frz (dvar 1)))) (sseq (sif (dtB (dcmp (vw (dslice (ow (dvar 0)) (dbind (frz (dvar 1)) fun d => dlift (partD d)) (dbind (dbin (frz (dvar 1)) (dpure (.int 1)) addD) fun d => dlift (partD d)))) (dpure (.str "-")) eqD)) (sset 2 (imR (dbin (frz (dvar 1)) (dpure (.int 1)) addD))) snext) (sseq (sset 3 (imR (frz (dvar 2)))) (sseq (sforP (rg rng1D (dcons (dpure (.int 60)) (dpure []))) (bName 4) (sseq (sif (dor (dtB (dcmp (vw (dvar 3)) (dbind (dconsV (vw (dvar 0)) (dpure [])) fun vs => dlift (lenD vs)) eqD)) (dor (dtB (dcmp (fl (dixO (ow (dvar 0)) (frz (dvar 3)))) (dpure (.str "0123456789")) notinD)) (dand (dtB (dcmp (vw (dvar 3)) (dbin (frz (dvar 2)) (dpure (.int 1)) addD) eqD)) (dtB (dcmp (fl (dixO (ow (dvar 0)) (frz (dvar 2)))) (dpure (.str "0")) eqD))))) (fun e => some (.bk false e)) snext) (sset 3 (imR (dbin (frz (dvar 3)) (dpure (.int 1)) addD))))) (sseq (sif (dor (dtB (dcmp (vw (dvar 3)) (vw (dvar 2)) eqD)) (dand (dtB (dcmp (vw (dvar 2)) (vw (dvar 1)) gtD)) (dtB (dcmp (fl (dixO (ow (dvar 0)) (frz (dvar 2)))) (dpure (.str "0")) eqD)))) (srt (imR (dbin (dbind (dpure (.int 1)) fun x => dlift (negD x)) (frz (dvar 2)) subD))) snext) (sseq (sif (dor (dtB (dcmp (vw (dvar 2)) (vw (dvar 1)) gtD)) (dor (dtB (dcmp (vw (dslice (ow (dvar 0)) (dbind (frz (dvar 3)) fun d => dlift (partD d)) (dbind (dbin (frz (dvar 3)) (dpure (.int 1)) addD) fun d => dlift (partD d)))) (dpure (.str ":")) neD)) (dtB (dcmp (dbind (dconsV (vw (dslice (ow (dvar 0)) (dbind (frz (dvar 1)) fun d => dlift (partD d)) (dbind (frz (dvar 3)) fun d => dlift (partD d)))) (dpure [])) fun vs => dlift (intS vs)) (dpure (.int 1000)) gtD)))) (srt (dvar 3)) snext) (sseq (sif (dtB (dcmp (dbin (dbin (frz (dvar 3)) (dpure (.int 1)) addD) (dbind (dconsV (vw (dslice (ow (dvar 0)) (dbind (frz (dvar 1)) fun d => dlift (partD d)) (dbind (frz (dvar 3)) fun d => dlift (partD d)))) (dpure [])) fun vs => dlift (intS vs)) addD) (dbind (dconsV (vw (dvar 0)) (dpure [])) fun vs => dlift (lenD vs)) gtD)) (srt (imR (dbin (dbind (dpure (.int 1)) fun x => dlift (negD x)) (dbind (dconsV (vw (dvar 0)) (dpure [])) fun vs => dlift (lenD vs)) subD))) snext) (srt (imR (dbin (dbin (frz (dvar 3)) (dpure (.int 1)) addD) (dbind (dconsV (vw (dslice (ow (dvar 0)) (dbind (frz (dvar 1)) fun d => dlift (partD d)) (dbind (frz (dvar 3)) fun d => dlift (partD d)))) (dpure [])) fun vs => dlift (intS vs)) addD)))))))))))
noncomputable def f__law_atom_end : FDen := fnden 5 (d__law_atom_end)
/-- _law_fault: 0 _law_text_here, 1 _law_at, 2 _law_depth, 3 _law_turn, 4 _law_opened, 5 _law_end, 6 _law_k -/
noncomputable def d__law_fault : SDen := (sseq (sset 1 (imR (dpure (.int 0)))) (sseq (sset 2 (imR (dpure (.int 0)))) (sseq (sforP (rg rng1D (dcons (dbin (dbind (dconsV (vw (dvar 0)) (dpure [])) fun vs => dlift (lenD vs)) (dpure (.int 1)) addD) (dpure []))) (bName 3) (sseq (sset 4 (imR (dcmp (vw (dslice (ow (dvar 0)) (dbind (frz (dvar 1)) fun d => dlift (partD d)) (dbind (dbin (frz (dvar 1)) (dpure (.int 1)) addD) fun d => dlift (partD d)))) (dpure (.str "(")) eqD))) (sseq (sif (dand (dtru (vw (dvar 4))) (dtB (dcmp (vw (dvar 2)) (dpure (.int 12)) eqD))) (srt (dvar 1)) snext) (sseq (sif (dtru (vw (dvar 4))) (sseq (sset 2 (imR (dbin (frz (dvar 2)) (dpure (.int 1)) addD))) (sset 1 (imR (dbin (frz (dvar 1)) (dpure (.int 1)) addD)))) (sseq (sset 5 (imR (frz (dbind (darcons (dvar 0) (darcons (imR (frz (dvar 1))) (dpure []))) fun as => dfnA 2 (f__law_atom_end) as)))) (sseq (sif (dtB (dcmp (vw (dvar 5)) (dpure (.int 0)) ltD)) (srt (imR (dbin (dbind (dpure (.int 1)) fun x => dlift (negD x)) (frz (dvar 5)) subD))) snext) (sset 1 (imR (frz (dvar 5))))))) (sseq (sif (dand (dtru (vw (dvar 4))) (dtB (dcmp (vw (dslice (ow (dvar 0)) (dbind (frz (dvar 1)) fun d => dlift (partD d)) (dbind (dbin (frz (dvar 1)) (dpure (.int 1)) addD) fun d => dlift (partD d)))) (dpure (.str ")")) neD))) (fun e => some (.ct false e)) snext) (sseq (sforP (rg rng1D (dcons (frz (dvar 2)) (dpure []))) (bName 6) (sif (dtB (dcmp (vw (dslice (ow (dvar 0)) (dbind (frz (dvar 1)) fun d => dlift (partD d)) (dbind (dbin (frz (dvar 1)) (dpure (.int 1)) addD) fun d => dlift (partD d)))) (dpure (.str ")")) eqD)) (sseq (sset 2 (imR (dbin (frz (dvar 2)) (dpure (.int 1)) subD))) (sset 1 (imR (dbin (frz (dvar 1)) (dpure (.int 1)) addD)))) snext)) (sseq (sif (dand (dtB (dcmp (vw (dvar 2)) (dpure (.int 0)) eqD)) (dtB (dcmp (vw (dvar 1)) (dbind (dconsV (vw (dvar 0)) (dpure [])) fun vs => dlift (lenD vs)) eqD))) (srt (imR (dbind (dpure (.int 1)) fun x => dlift (negD x)))) snext) (sseq (sif (dor (dtB (dcmp (vw (dvar 2)) (dpure (.int 0)) eqD)) (dtB (dcmp (vw (dslice (ow (dvar 0)) (dbind (frz (dvar 1)) fun d => dlift (partD d)) (dbind (dbin (frz (dvar 1)) (dpure (.int 1)) addD) fun d => dlift (partD d)))) (dpure (.str " ")) neD))) (srt (dvar 1)) snext) (sset 1 (imR (dbin (frz (dvar 1)) (dpure (.int 1)) addD))))))))))) (srt (imR (dpure (.int 0)))))))
noncomputable def f__law_fault : FDen := fnden 7 (d__law_fault)
/-- read_tuple: 0 text, 1 start, 2 depth, 3 items, 4 place, 5 item, 6 sign -/
noncomputable def d_read_tuple (rec : FDen) : SDen := (sseq (sif (dtB (dcmp (vw (dslice (ow (dvar 0)) (dbind (frz (dvar 1)) fun d => dlift (partD d)) (dbind (dbin (frz (dvar 1)) (dpure (.int 1)) addD) fun d => dlift (partD d)))) (dpure (.str ")")) eqD)) (srt (imR (dtup (dcons (dtup (dpure [])) (dcons (dbin (frz (dvar 1)) (dpure (.int 1)) addD) (dpure [])))))) snext) (sseq (sset 3 (dlst (dpure []))) (sseq (sset 4 (imR (frz (dvar 1)))) (swhile (dtru (dpure (.bl true))) (sseq (sasg (bTup 2 (bCons (bName 5) (bCons (bName 4) bNil))) (frz (dbind (darcons (dvar 0) (darcons (imR (frz (dvar 4))) (darcons (dvar 2) (dpure [])))) fun as => dfnA 3 rec as))) (sseq (sapp 3 (imR (frz (dvar 5)))) (sseq (sset 6 (imR (frz (dslice (ow (dvar 0)) (dbind (frz (dvar 4)) fun d => dlift (partD d)) (dbind (dbin (frz (dvar 4)) (dpure (.int 1)) addD) fun d => dlift (partD d)))))) (sseq (sif (dtB (dcmp (vw (dvar 6)) (dpure (.str ")")) eqD)) (srt (imR (dtup (dcons (dtupV (ow (dvar 3))) (dcons (dbin (frz (dvar 4)) (dpure (.int 1)) addD) (dpure [])))))) snext) (sseq (sif (dtB (dcmp (vw (dvar 6)) (dpure (.str " ")) neD)) (sraise "BadNotation" (frz (dvar 4))) snext) (saug 4 (dpure (.int 1)))))))) 1000000))))
noncomputable def f_read_tuple (rec : FDen) : FDen := fnden 7 (d_read_tuple rec)
/-- number_end: 0 text, 1 start, 2 end -/
noncomputable def d_number_end : SDen := (sseq (sif (dtB (dcmp (vw (dslice (ow (dvar 0)) (dbind (frz (dvar 1)) fun d => dlift (partD d)) (dbind (dbin (frz (dvar 1)) (dpure (.int 1)) addD) fun d => dlift (partD d)))) (dpure (.str "0")) eqD)) (srt (imR (dbin (frz (dvar 1)) (dpure (.int 1)) addD))) snext) (sseq (sset 2 (imR (frz (dvar 1)))) (sseq (swhile (dand (dtB (dcmp (vw (dvar 2)) (dbind (dconsV (vw (dvar 0)) (dpure [])) fun vs => dlift (lenD vs)) ltD)) (dand (dtB (dcmp (vw (dvar 2)) (dbin (frz (dvar 1)) (dpure (.int 60)) addD) ltD)) (dtB (dcmp (fl (dixO (ow (dvar 0)) (frz (dvar 2)))) (dpure (.str "0123456789")) inD)))) (saug 2 (dpure (.int 1))) 1000000) (srt (dvar 2)))))
noncomputable def f_number_end : FDen := fnden 3 (d_number_end)
/-- read_negative: 0 text, 1 start, 2 end -/
noncomputable def d_read_negative : SDen := (sseq (sset 2 (imR (frz (dbind (darcons (dvar 0) (darcons (dvar 1) (dpure []))) fun as => dfnA 2 (f_number_end) as)))) (sseq (sif (dor (dtB (dcmp (vw (dvar 2)) (vw (dvar 1)) eqD)) (dtB (dcmp (fl (dixO (ow (dvar 0)) (frz (dvar 1)))) (dpure (.str "0")) eqD))) (sraise "BadNotation" (frz (dvar 1))) snext) (srt (imR (dtup (dcons (dbind (dbind (dconsV (vw (dslice (ow (dvar 0)) (dbind (frz (dvar 1)) fun d => dlift (partD d)) (dbind (frz (dvar 2)) fun d => dlift (partD d)))) (dpure [])) fun vs => dlift (intS vs)) fun x => dlift (negD x)) (dcons (frz (dvar 2)) (dpure []))))))))
noncomputable def f_read_negative : FDen := fnden 3 (d_read_negative)
/-- read_number: 0 text, 1 start, 2 end, 3 number, 4 stop -/
noncomputable def d_read_number : SDen := (sseq (sset 2 (imR (frz (dbind (darcons (dvar 0) (darcons (dvar 1) (dpure []))) fun as => dfnA 2 (f_number_end) as)))) (sseq (sset 3 (imR (dbind (dconsV (vw (dslice (ow (dvar 0)) (dbind (frz (dvar 1)) fun d => dlift (partD d)) (dbind (frz (dvar 2)) fun d => dlift (partD d)))) (dpure [])) fun vs => dlift (intS vs)))) (sseq (sif (dor (dtB (dcmp (vw (dvar 3)) (dpure (.int 1000)) gtD)) (dtB (dcmp (vw (dslice (ow (dvar 0)) (dbind (frz (dvar 2)) fun d => dlift (partD d)) (dbind (dbin (frz (dvar 2)) (dpure (.int 1)) addD) fun d => dlift (partD d)))) (dpure (.str ":")) neD))) (srt (imR (dtup (dcons (frz (dvar 3)) (dcons (frz (dvar 2)) (dpure [])))))) snext) (sseq (sset 4 (imR (dbin (dbin (frz (dvar 2)) (dpure (.int 1)) addD) (frz (dvar 3)) addD))) (sseq (sif (dtB (dcmp (vw (dvar 4)) (dbind (dconsV (vw (dvar 0)) (dpure [])) fun vs => dlift (lenD vs)) gtD)) (sraise "BadNotation" (dbind (dconsV (vw (dvar 0)) (dpure [])) fun vs => dlift (lenD vs))) snext) (srt (imR (dtup (dcons (frz (dslice (ow (dvar 0)) (dbind (dbin (frz (dvar 2)) (dpure (.int 1)) addD) fun d => dlift (partD d)) (dbind (frz (dvar 4)) fun d => dlift (partD d)))) (dcons (frz (dvar 4)) (dpure [])))))))))))
noncomputable def f_read_number : FDen := fnden 5 (d_read_number)
/-- read_value: 0 text, 1 start, 2 depth, 3 sign -/
noncomputable def d_read_value (rec : FDen) : SDen := (sseq (sset 3 (imR (frz (dslice (ow (dvar 0)) (dbind (frz (dvar 1)) fun d => dlift (partD d)) (dbind (dbin (frz (dvar 1)) (dpure (.int 1)) addD) fun d => dlift (partD d)))))) (sseq (sif (dor (dtB (dcmp (vw (dvar 3)) (dpure (.str "T")) eqD)) (dtB (dcmp (vw (dvar 3)) (dpure (.str "F")) eqD))) (srt (imR (dtup (dcons (dcmp (vw (dvar 3)) (dpure (.str "T")) eqD) (dcons (dbin (frz (dvar 1)) (dpure (.int 1)) addD) (dpure [])))))) snext) (sseq (sif (dand (dtB (dcmp (vw (dvar 3)) (dpure (.str "(")) eqD)) (dtB (dcmp (vw (dvar 2)) (dpure (.int 12)) ltD))) (srt (dbind (darcons (dvar 0) (darcons (imR (dbin (frz (dvar 1)) (dpure (.int 1)) addD)) (darcons (imR (dbin (frz (dvar 2)) (dpure (.int 1)) addD)) (dpure [])))) fun as => dfnA 3 (f_read_tuple rec) as)) snext) (sseq (sif (dtB (dcmp (vw (dvar 3)) (dpure (.str "-")) eqD)) (srt (dbind (darcons (dvar 0) (darcons (imR (dbin (frz (dvar 1)) (dpure (.int 1)) addD)) (dpure []))) fun as => dfnA 2 (f_read_negative) as)) snext) (sseq (sif (dand (dtB (dcmp (vw (dvar 3)) (dpure (.str "")) neD)) (dtB (dcmp (vw (dvar 3)) (dpure (.str "0123456789")) inD))) (srt (dbind (darcons (dvar 0) (darcons (dvar 1) (dpure []))) fun as => dfnA 2 (f_read_number) as)) snext) (sraise "BadNotation" (frz (dvar 1))))))))
noncomputable def f_read_value : Nat → FDen
  | 0 => fnden 4 (sseq (fun _ => none) (sseq (fun _ => none) (sseq (fun _ => none) (sseq (fun _ => none) (sseq (fun _ => none) (fun _ => none))))))
  | j + 1 => fnden 4 (d_read_value (f_read_value j))
/-- read: 0 text, 1 value, 2 end -/
noncomputable def d_read : SDen := (sseq (sasg (bTup 2 (bCons (bName 1) (bCons (bName 2) bNil))) (frz (dbind (darcons (dvar 0) (darcons (imR (dpure (.int 0))) (darcons (imR (dpure (.int 0))) (dpure [])))) fun as => dfnA 3 (f_read_value 20) as))) (sseq (sif (dtB (dcmp (vw (dvar 2)) (dbind (dconsV (vw (dvar 0)) (dpure [])) fun vs => dlift (lenD vs)) neD)) (sraise "BadNotation" (frz (dvar 2))) snext) (srt (dvar 1))))
noncomputable def f_read : FDen := fnden 3 (d_read)
/-- _law_raises_base: 0 _law_text_here, 1 e -/
noncomputable def d__law_raises_base : SDen := (sseq (stry (sdrop (dbind (darcons (dvar 0) (dpure [])) fun as => dfnA 1 (f_read) as)) [⟨[("BadNotation", true)], some 1, fun xa xd xc => (sseq (sif (dor (dtru (dxi xa xd 1 (([("BadNotation", false)] : List (Str × Bool)).lookup xc))) (dtru (dxi xa xd 1 (([("BadNotation", false)] : List (Str × Bool)).lookup xc)))) (srt (imR (dpure (.bl false)))) snext) (srt (imR (dandV (dxi xa xd 1 (([("BadNotation", true)] : List (Str × Bool)).lookup xc)) (dxi xa xd 1 (([("BadNotation", true)] : List (Str × Bool)).lookup xc))))))⟩]) (srt (imR (dpure (.bl false)))))
noncomputable def f__law_raises_base : FDen := fnden 2 (d__law_raises_base)
/-- law: 0 _law_script, 1 _law_numbers_here, 2 _law_text_here, 3 _law_fault_here, 4 _law_place, 5 _law_value_here, 6 _law_raised, 7 e, 8 _law_good, 9 _law_back -/
noncomputable def d_law : SDen := (sseq (sset 1 (imR (frz (dbind (darcons (dvar 0) (darcons (imR (dpure (.int 16))) (darcons (imR (dpure (.int 1))) (dpure [])))) fun as => dfnA 3 (f__law_tape) as)))) (sseq (sset 2 (imR (frz (dbind (darcons (dvar 0) (darcons (imR (frz (dvar 1))) (dpure []))) fun as => dfnA 2 (f__law_drawn_text) as)))) (sseq (sset 3 (imR (frz (dbind (darcons (imR (frz (dvar 2))) (dpure [])) fun as => dfnA 1 (f__law_fault) as)))) (sseq (sset 4 (imR (dpure .non))) (sseq (sset 5 (imR (dpure .non))) (sseq (sset 6 (imR (dpure (.bl false)))) (sseq (stry (sset 5 (imR (frz (dbind (darcons (imR (frz (dvar 2))) (dpure [])) fun as => dfnA 1 (f_read) as)))) [⟨[("BadNotation", true)], some 7, fun xa xd xc => (sseq (sset 6 (imR (dpure (.bl true)))) (sset 4 (imR (dxf xa xd 7 "what"))))⟩]) (sseq (sif (dand (dtB (dcmp (vw (dvar 3)) (dpure (.int 0)) ltD)) (dor (dtru (vw (dvar 6))) (dtB (dcmp (vw (dbind (darcons (imR (frz (dvar 5))) (dpure [])) fun as => dfnA 1 (f__law_written 20) as)) (vw (dvar 2)) neD)))) (srt (imR (dpure (.bl false)))) snext) (sseq (sif (dand (dtB (dcmp (vw (dvar 3)) (dpure (.int 0)) geD)) (dor (dnot (dtru (vw (dvar 6)))) (dor (dnot (dtru (dbind (dconsV (vw (dvar 4)) (dconsV (dpure (.ty "int")) (dpure []))) fun vs => dlift (isiD vs)))) (dor (dtru (dbind (dconsV (vw (dvar 4)) (dconsV (dpure (.ty "bool")) (dpure []))) fun vs => dlift (isiD vs))) (dtB (dcmp (vw (dvar 4)) (vw (dvar 3)) neD)))))) (srt (imR (dpure (.bl false)))) snext) (sseq (sif (dand (dtB (dcmp (vw (dvar 3)) (dpure (.int 0)) geD)) (dnot (dtru (vw (dbind (darcons (imR (frz (dvar 2))) (dpure [])) fun as => dfnA 1 (f__law_raises_base) as))))) (srt (imR (dpure (.bl false)))) snext) (sseq (sset 8 (imR (dbin (dbin (dbin (dbin (dpure (.str "(")) (dbind (dconsV (dbind (dconsV (vw (dvar 2)) (dpure [])) fun vs => dlift (lenD vs)) (dpure [])) fun vs => dlift (strD vs)) addD) (dpure (.str ":")) addD) (frz (dvar 2)) addD) (dpure (.str " 5)")) addD))) (sseq (sif (dtB (dcmp (dbind (dconsV (vw (dvar 2)) (dpure [])) fun vs => dlift (lenD vs)) (dpure (.int 1000)) gtD)) (sset 8 (imR (dpure (.str "(0: 5)")))) snext) (sseq (sset 9 (imR (frz (dbind (darcons (imR (frz (dvar 8))) (dpure [])) fun as => dfnA 1 (f_read) as)))) (srt (imR (dandV (dbind (dconsV (vw (dvar 9)) (dconsV (dpure (.ty "tuple")) (dpure []))) fun vs => dlift (isiD vs)) (dcmp (vw (dbind (darcons (imR (frz (dvar 9))) (dpure [])) fun as => dfnA 1 (f__law_written 20) as)) (vw (dvar 8)) eqD)))))))))))))))))
noncomputable def f_law : FDen := fnden 10 (d_law)
noncomputable def fA (_ : Unit) : FDen := f_law
end K73

namespace K73
open PySem PySem.Spec PyProof.Rows L2 Evl DL
def top (i : Nat) : Stmt := PySem.Challenge.pw_keptcoin_k73_strict_reading.main.body.getD i (.Pass ⟨0, 0, 0, 0⟩)
abbrev s__law_numbers : Stmt := top 19
theorem sc__law_numbers : FnScope ["_law_cell_here", "_law_many", "_law_size", "_law_rest", "_law_numbers_here", "_law_k", "_law_mixed"] ["_law_cell_here", "_law_many"] (defScope s__law_numbers) := ⟨rfl, rfl, rfl, by decide +kernel, rfl, by decide +kernel, by decide +kernel⟩
abbrev s__law_cell : Stmt := top 18
theorem sc__law_cell : FnScope ["_law_script", "_law_k"] ["_law_script", "_law_k"] (defScope s__law_cell) := ⟨rfl, rfl, rfl, by decide +kernel, rfl, by decide +kernel, by decide +kernel⟩
abbrev s__law_tape : Stmt := top 20
theorem sc__law_tape : FnScope ["_law_script", "_law_first", "_law_others", "_law_numbers_here", "_law_cell_here"] ["_law_script", "_law_first", "_law_others"] (defScope s__law_tape) := ⟨rfl, rfl, rfl, by decide +kernel, rfl, by decide +kernel, by decide +kernel⟩
abbrev s__law_odd : Stmt := top 29
theorem sc__law_odd : FnScope ["_law_number", "_law_odd_here"] ["_law_number"] (defScope s__law_odd) := ⟨rfl, rfl, rfl, by decide +kernel, rfl, by decide +kernel, by decide +kernel⟩
abbrev s__law_written : Stmt := top 26
theorem sc__law_written : FnScope ["_law_value_here", "_law_item"] ["_law_value_here"] (defScope s__law_written) := ⟨rfl, rfl, rfl, by decide +kernel, rfl, by decide +kernel, by decide +kernel⟩
abbrev s__law_integer : Stmt := top 23
theorem sc__law_integer : FnScope ["_law_cell_here", "_law_number", "_law_part", "_law_great"] ["_law_cell_here", "_law_number"] (defScope s__law_integer) := ⟨rfl, rfl, rfl, by decide +kernel, rfl, by decide +kernel, by decide +kernel⟩
abbrev s__law_char : Stmt := top 21
theorem sc__law_char : FnScope ["_law_number", "_law_chars"] ["_law_number"] (defScope s__law_char) := ⟨rfl, rfl, rfl, by decide +kernel, rfl, by decide +kernel, by decide +kernel⟩
abbrev s__law_text : Stmt := top 22
theorem sc__law_text : FnScope ["_law_number", "_law_size", "_law_k"] ["_law_number", "_law_size"] (defScope s__law_text) := ⟨rfl, rfl, rfl, by decide +kernel, rfl, by decide +kernel, by decide +kernel⟩
abbrev s__law_leaf : Stmt := top 24
theorem sc__law_leaf : FnScope ["_law_cell_here", "_law_number", "_law_part", "_law_size"] ["_law_cell_here", "_law_number"] (defScope s__law_leaf) := ⟨rfl, rfl, rfl, by decide +kernel, rfl, by decide +kernel, by decide +kernel⟩
abbrev s__law_value : Stmt := top 25
theorem sc__law_value : FnScope ["_law_script", "_law_numbers_here", "_law_values", "_law_depths", "_law_k", "_law_number", "_law_many", "_law_depth", "_law_taken"] ["_law_script", "_law_numbers_here"] (defScope s__law_value) := ⟨rfl, rfl, rfl, by decide +kernel, rfl, by decide +kernel, by decide +kernel⟩
abbrev s__law_spoilt : Stmt := top 30
theorem sc__law_spoilt : FnScope ["_law_text_here", "_law_way", "_law_number", "_law_sign", "_law_place"] ["_law_text_here", "_law_way", "_law_number"] (defScope s__law_spoilt) := ⟨rfl, rfl, rfl, by decide +kernel, rfl, by decide +kernel, by decide +kernel⟩
abbrev s__law_drawn_text : Stmt := top 31
theorem sc__law_drawn_text : FnScope ["_law_script", "_law_numbers_here", "_law_many", "_law_text_here", "_law_k"] ["_law_script", "_law_numbers_here"] (defScope s__law_drawn_text) := ⟨rfl, rfl, rfl, by decide +kernel, rfl, by decide +kernel, by decide +kernel⟩
abbrev s__law_atom_end : Stmt := top 27
theorem sc__law_atom_end : FnScope ["_law_text_here", "_law_at", "_law_start", "_law_end", "_law_k"] ["_law_text_here", "_law_at"] (defScope s__law_atom_end) := ⟨rfl, rfl, rfl, by decide +kernel, rfl, by decide +kernel, by decide +kernel⟩
abbrev s__law_fault : Stmt := top 28
theorem sc__law_fault : FnScope ["_law_text_here", "_law_at", "_law_depth", "_law_turn", "_law_opened", "_law_end", "_law_k"] ["_law_text_here"] (defScope s__law_fault) := ⟨rfl, rfl, rfl, by decide +kernel, rfl, by decide +kernel, by decide +kernel⟩
abbrev s_KeptError_init : Stmt := inClass (top 1) 0
theorem sc_KeptError_init : FnScope ["self", "what"] ["self", "what"] (defScope s_KeptError_init) := ⟨rfl, rfl, rfl, by decide +kernel, rfl, by decide +kernel, by decide +kernel⟩
abbrev s_read_tuple : Stmt := top 14
theorem sc_read_tuple : FnScope ["text", "start", "depth", "items", "place", "item", "sign"] ["text", "start", "depth"] (defScope s_read_tuple) := ⟨rfl, rfl, rfl, by decide +kernel, rfl, by decide +kernel, by decide +kernel⟩
abbrev s_number_end : Stmt := top 11
theorem sc_number_end : FnScope ["text", "start", "end"] ["text", "start"] (defScope s_number_end) := ⟨rfl, rfl, rfl, by decide +kernel, rfl, by decide +kernel, by decide +kernel⟩
abbrev s_read_negative : Stmt := top 12
theorem sc_read_negative : FnScope ["text", "start", "end"] ["text", "start"] (defScope s_read_negative) := ⟨rfl, rfl, rfl, by decide +kernel, rfl, by decide +kernel, by decide +kernel⟩
abbrev s_read_number : Stmt := top 13
theorem sc_read_number : FnScope ["text", "start", "end", "number", "stop"] ["text", "start"] (defScope s_read_number) := ⟨rfl, rfl, rfl, by decide +kernel, rfl, by decide +kernel, by decide +kernel⟩
abbrev s_read_value : Stmt := top 15
theorem sc_read_value : FnScope ["text", "start", "depth", "sign"] ["text", "start", "depth"] (defScope s_read_value) := ⟨rfl, rfl, rfl, by decide +kernel, rfl, by decide +kernel, by decide +kernel⟩
abbrev s_read : Stmt := top 16
theorem sc_read : FnScope ["text", "value", "end"] ["text"] (defScope s_read) := ⟨rfl, rfl, rfl, by decide +kernel, rfl, by decide +kernel, by decide +kernel⟩
abbrev s__law_raises_base : Stmt := top 32
theorem sc__law_raises_base : FnScope ["_law_text_here", "e"] ["_law_text_here"] (defScope s__law_raises_base) := ⟨rfl, rfl, rfl, by decide +kernel, rfl, by decide +kernel, by decide +kernel⟩
abbrev s_law : Stmt := top 33
theorem sc_law : FnScope ["_law_script", "_law_numbers_here", "_law_text_here", "_law_fault_here", "_law_place", "_law_value_here", "_law_raised", "e", "_law_good", "_law_back"] ["_law_script"] (defScope s_law) := ⟨rfl, rfl, rfl, by decide +kernel, rfl, by decide +kernel, by decide +kernel⟩
structure Txt (K : PySem.W.Frag) (mg : Str → Option Value) (A : Nat → Addr) (FD : Nat → FuncData) (XA : Nat → Addr) : Prop where
  xm_KeptError : mg "KeptError" = some (.ref (XA 0))
  xm_RecordError : mg "RecordError" = some (.ref (XA 1))
  xm_BadNotation : mg "BadNotation" = some (.ref (XA 2))
  xm_BadRecord : mg "BadRecord" = some (.ref (XA 3))
  xm_BadLine : mg "BadLine" = some (.ref (XA 4))
  ez_BadNotation : ExcK K mg "BadNotation" (XA 2) (A 14)
  xis : XisT K mg ["BadNotation"]
  sub_BadNotation : SubsT K mg (.ref (XA 2)) [("BadNotation", true)]
  sub_RecordError : SubsT K mg (.ref (XA 1)) [("BadNotation", true)]
  kit_BadLine : KitsT K mg (.ref (XA 4)) [("BadNotation", false)]
  kit_BadRecord : KitsT K mg (.ref (XA 3)) [("BadNotation", false)]
  kit_KeptError : KitsT K mg (.ref (XA 0)) [("BadNotation", true)]
  kit_ValueError : KitsT K mg (.type "ValueError") [("BadNotation", true)]
  f__law_numbers : mg "_law_numbers" = some (.ref (A 0))
  F__law_numbers : Df K "_law_numbers" "_law_numbers" s__law_numbers (A 0) (FD 0)
  b__law_numbers : Binds K (FD 0) ["_law_cell_here", "_law_many"] []
  f__law_cell : mg "_law_cell" = some (.ref (A 1))
  F__law_cell : Df K "_law_cell" "_law_cell" s__law_cell (A 1) (FD 1)
  b__law_cell : Binds K (FD 1) ["_law_script", "_law_k"] []
  f__law_tape : mg "_law_tape" = some (.ref (A 2))
  F__law_tape : Df K "_law_tape" "_law_tape" s__law_tape (A 2) (FD 2)
  b__law_tape : Binds K (FD 2) ["_law_script", "_law_first", "_law_others"] []
  f__law_odd : mg "_law_odd" = some (.ref (A 3))
  F__law_odd : Df K "_law_odd" "_law_odd" s__law_odd (A 3) (FD 3)
  b__law_odd : Binds K (FD 3) ["_law_number"] []
  f__law_written : mg "_law_written" = some (.ref (A 4))
  F__law_written : Df K "_law_written" "_law_written" s__law_written (A 4) (FD 4)
  b__law_written : Binds K (FD 4) ["_law_value_here"] []
  f__law_integer : mg "_law_integer" = some (.ref (A 5))
  F__law_integer : Df K "_law_integer" "_law_integer" s__law_integer (A 5) (FD 5)
  b__law_integer : Binds K (FD 5) ["_law_cell_here", "_law_number"] []
  f__law_char : mg "_law_char" = some (.ref (A 6))
  F__law_char : Df K "_law_char" "_law_char" s__law_char (A 6) (FD 6)
  b__law_char : Binds K (FD 6) ["_law_number"] []
  f__law_text : mg "_law_text" = some (.ref (A 7))
  F__law_text : Df K "_law_text" "_law_text" s__law_text (A 7) (FD 7)
  b__law_text : Binds K (FD 7) ["_law_number", "_law_size"] []
  f__law_leaf : mg "_law_leaf" = some (.ref (A 8))
  F__law_leaf : Df K "_law_leaf" "_law_leaf" s__law_leaf (A 8) (FD 8)
  b__law_leaf : Binds K (FD 8) ["_law_cell_here", "_law_number"] []
  f__law_value : mg "_law_value" = some (.ref (A 9))
  F__law_value : Df K "_law_value" "_law_value" s__law_value (A 9) (FD 9)
  b__law_value : Binds K (FD 9) ["_law_script", "_law_numbers_here"] []
  f__law_spoilt : mg "_law_spoilt" = some (.ref (A 10))
  F__law_spoilt : Df K "_law_spoilt" "_law_spoilt" s__law_spoilt (A 10) (FD 10)
  b__law_spoilt : Binds K (FD 10) ["_law_text_here", "_law_way", "_law_number"] []
  f__law_drawn_text : mg "_law_drawn_text" = some (.ref (A 11))
  F__law_drawn_text : Df K "_law_drawn_text" "_law_drawn_text" s__law_drawn_text (A 11) (FD 11)
  b__law_drawn_text : Binds K (FD 11) ["_law_script", "_law_numbers_here"] []
  f__law_atom_end : mg "_law_atom_end" = some (.ref (A 12))
  F__law_atom_end : Df K "_law_atom_end" "_law_atom_end" s__law_atom_end (A 12) (FD 12)
  b__law_atom_end : Binds K (FD 12) ["_law_text_here", "_law_at"] []
  f__law_fault : mg "_law_fault" = some (.ref (A 13))
  F__law_fault : Df K "_law_fault" "_law_fault" s__law_fault (A 13) (FD 13)
  b__law_fault : Binds K (FD 13) ["_law_text_here"] []
  xti : PySem.W.typeIn K (.ref (A 14)) = some (.type "function")
  vV : PySem.W.findCls K (.type "ValueError") (.type "type") "__init__" = some (.val (.builtin "ValueError.__init__"))
  F_KeptError_init : Df K "__init__" "KeptError.__init__" s_KeptError_init (A 14) (FD 14)
  b_KeptError_init_0 : DB K (FD 14) ["self", "what"] []
  f_read_tuple : mg "read_tuple" = some (.ref (A 15))
  F_read_tuple : Df K "read_tuple" "read_tuple" s_read_tuple (A 15) (FD 15)
  b_read_tuple : Binds K (FD 15) ["text", "start", "depth"] []
  f_number_end : mg "number_end" = some (.ref (A 16))
  F_number_end : Df K "number_end" "number_end" s_number_end (A 16) (FD 16)
  b_number_end : Binds K (FD 16) ["text", "start"] []
  f_read_negative : mg "read_negative" = some (.ref (A 17))
  F_read_negative : Df K "read_negative" "read_negative" s_read_negative (A 17) (FD 17)
  b_read_negative : Binds K (FD 17) ["text", "start"] []
  f_read_number : mg "read_number" = some (.ref (A 18))
  F_read_number : Df K "read_number" "read_number" s_read_number (A 18) (FD 18)
  b_read_number : Binds K (FD 18) ["text", "start"] []
  f_read_value : mg "read_value" = some (.ref (A 19))
  F_read_value : Df K "read_value" "read_value" s_read_value (A 19) (FD 19)
  b_read_value : Binds K (FD 19) ["text", "start", "depth"] []
  f_read : mg "read" = some (.ref (A 20))
  F_read : Df K "read" "read" s_read (A 20) (FD 20)
  b_read : Binds K (FD 20) ["text"] []
  f__law_raises_base : mg "_law_raises_base" = some (.ref (A 21))
  F__law_raises_base : Df K "_law_raises_base" "_law_raises_base" s__law_raises_base (A 21) (FD 21)
  b__law_raises_base : Binds K (FD 21) ["_law_text_here"] []
  F_law : Df K "law" "law" s_law (A 22) (FD 22)
  g_DIGITS : ∃ t, mg "DIGITS" = some (.str "0123456789" t)
  g_MOST_DEPTH : ∃ t, mg "MOST_DEPTH" = some (.int 12 t)
  g_MOST_DIGITS : ∃ t, mg "MOST_DIGITS" = some (.int 60 t)
  g_MOST_LENGTH : ∃ t, mg "MOST_LENGTH" = some (.int 1000 t)
  n_ValueError : mg "ValueError" = none
  n_abs : mg "abs" = none
  n_bool : mg "bool" = none
  n_int : mg "int" = none
  n_isinstance : mg "isinstance" = none
  n_len : mg "len" = none
  n_max : mg "max" = none
  n_min : mg "min" = none
  n_range : mg "range" = none
  n_str : mg "str" = none
  n_tuple : mg "tuple" = none
section
variable {P : Program} {w : World} {K : PySem.W.Frag} {mg : Str → Option Value} {base : Heap} {A : Nat → Addr} {FD : Nat → FuncData} {XA : Nat → Addr}
theorem ok__law_numbers (T : Txt K mg A FD XA) : FnOk P w K mg base (L2.CX P w) 1 (A 0) (FD 0) ["_law_cell_here", "_law_many"] (spD ⟨K, P, w, mg⟩ 2 (f__law_numbers)) := by
  refine fn_okD (N := ["_law_cell_here", "_law_many", "_law_size", "_law_rest", "_law_numbers_here", "_law_k", "_law_mixed"]) (ps := ["_law_cell_here", "_law_many"]) (k := 0) (den := d__law_numbers) T.F__law_numbers sc__law_numbers fun cdv Ar outer s H E hr => ?_
  have nd := sc__law_numbers.nd
  have hu := hr.units
  have hu1 : (Ar.deeper (envOfC "_law_numbers" (defScope s__law_numbers) s.heap.objs.size (A 0) cdv)).units + 65 < cLine := by have := hr.un; omega
  have hu2 : (Ar.deeper (envOfC "_law_numbers" (defScope s__law_numbers) s.heap.objs.size (A 0) cdv)).units + 1 < cLine := by omega
  have tk : Takes (cxOf (L2.CX P w) P w K mg base ["_law_cell_here", "_law_many", "_law_size", "_law_rest", "_law_numbers_here", "_law_k", "_law_mixed"] "_law_numbers" (defScope s__law_numbers) (A 0) cdv Ar outer s H E) (fun cls d _ H => E cls d H) := takes_of rfl rfl rfl rfl
  have po : PassesOwn (model P w) (Ar.deeper (envOfC "_law_numbers" (defScope s__law_numbers) s.heap.objs.size (A 0) cdv)) (cxOf (L2.CX P w) P w K mg base ["_law_cell_here", "_law_many", "_law_size", "_law_rest", "_law_numbers_here", "_law_k", "_law_mixed"] "_law_numbers" (defScope s__law_numbers) (A 0) cdv Ar outer s H E).env (cxOf (L2.CX P w) P w K mg base ["_law_cell_here", "_law_many", "_law_size", "_law_rest", "_law_numbers_here", "_law_k", "_law_mixed"] "_law_numbers" (defScope s__law_numbers) (A 0) cdv Ar outer s H E).xe := passes_of rfl
  exact (dss_cons (ds_set (i := 2) nd rfl (.inl rfl) (di_callBV call_abs ok_abs (by rfl) T.n_abs (by decide +kernel) (dv_cons (de_var (pv 0)).v dv_nil)).e) (dss_cons (ds_set (i := 3) nd rfl (.inl rfl) (de_var (pv 2)).i.e) (dss_cons (ds_set (i := 4) nd rfl (.inl rfl) (de_lst da_nil)) (dss_cons (ds_forP po rfl (dpi_range1 (by rfl) T.n_range (da_cons (de_var (pv 1)).i da_nil)) (dg_name (i := 5) nd rfl (.inl rfl)) (dss_one (ds_if (dw_and (dt_cmp op_ge ok_ge (de_var (pv 2)).v (di_pow di_int di_int).v (nomark _)) (dw_and1 (dt_cmp op_gt ok_gt (de_var (pv 3)).v di_int.v (nomark _)))).t (dss_cons (ds_app (i := 4) (pv 4) (di_mod (di_callTV call_int1 ok_int (by rfl) T.n_int (by decide +kernel) (dv_cons (de_var (pv 3)).v dv_nil)) di_int).e (fun h => pe_bm PySem.F.plainAttrs_list PySem.F.slot_list_append PySem.F.type_list_append mt_append (pv 4) h)) (dss_one (ds_set (i := 3) nd rfl (.inl rfl) (di_div (de_var (pv 3)).i di_int).e))) (dss_cons (ds_set (i := 6) nd rfl (.inl rfl) (di_mod (di_callTV call_int1 ok_int (by rfl) T.n_int (by decide +kernel) (dv_cons (di_add (di_add (di_mul (de_var (pv 2)).i di_int) (di_mul (de_var (pv 5)).i di_int)) di_int).v dv_nil)) di_int).e) (dss_cons (ds_set (i := 6) nd rfl (.inl rfl) (di_mod (di_callTV call_int1 ok_int (by rfl) T.n_int (by decide +kernel) (dv_cons (di_add (di_add (di_mul (de_var (pv 6)).i (de_var (pv 6)).i) (di_mul di_int (de_var (pv 5)).i)) di_int).v dv_nil)) di_int).e) (dss_one (ds_app (i := 4) (pv 4) (di_mod (di_callTV call_int1 ok_int (by rfl) T.n_int (by decide +kernel) (dv_cons (di_div (de_var (pv 6)).i di_int).v dv_nil)) di_int).e (fun h => pe_bm PySem.F.plainAttrs_list PySem.F.slot_list_append PySem.F.type_list_append mt_append (pv 4) h)))))))) (dss_one (ds_ret (de_var (pv 4))))))))
theorem ok__law_cell (T : Txt K mg A FD XA) : FnOk P w K mg base (L2.CX P w) 1 (A 1) (FD 1) ["_law_script", "_law_k"] (spD ⟨K, P, w, mg⟩ 2 (f__law_cell)) := by
  refine fn_okD (N := ["_law_script", "_law_k"]) (ps := ["_law_script", "_law_k"]) (k := 0) (den := d__law_cell) T.F__law_cell sc__law_cell fun cdv Ar outer s H E hr => ?_
  have nd := sc__law_cell.nd
  have hu := hr.units
  have hu1 : (Ar.deeper (envOfC "_law_cell" (defScope s__law_cell) s.heap.objs.size (A 1) cdv)).units + 65 < cLine := by have := hr.un; omega
  have hu2 : (Ar.deeper (envOfC "_law_cell" (defScope s__law_cell) s.heap.objs.size (A 1) cdv)).units + 1 < cLine := by omega
  have tk : Takes (cxOf (L2.CX P w) P w K mg base ["_law_script", "_law_k"] "_law_cell" (defScope s__law_cell) (A 1) cdv Ar outer s H E) (fun cls d _ H => E cls d H) := takes_of rfl rfl rfl rfl
  have po : PassesOwn (model P w) (Ar.deeper (envOfC "_law_cell" (defScope s__law_cell) s.heap.objs.size (A 1) cdv)) (cxOf (L2.CX P w) P w K mg base ["_law_script", "_law_k"] "_law_cell" (defScope s__law_cell) (A 1) cdv Ar outer s H E).env (cxOf (L2.CX P w) P w K mg base ["_law_script", "_law_k"] "_law_cell" (defScope s__law_cell) (A 1) cdv Ar outer s H E).xe := passes_of rfl
  exact (dss_cons (ds_if (dt_cmp op_lt2 ok_lt (de_var (pv 1)).v (di_callBV call_len ok_len (by rfl) T.n_len (by decide +kernel) (dv_cons (de_var (pv 0)).v dv_nil)).v (nomark _)) (dss_one (ds_ret (do_ix (de_var (pv 0)).o (de_var (pv 1)).i).i.e)) dss_nil) (dss_one (ds_ret di_int.e)))
theorem ok__law_tape (T : Txt K mg A FD XA) : FnOk P w K mg base (L2.CX P w) 2 (A 2) (FD 2) ["_law_script", "_law_first", "_law_others"] (spD ⟨K, P, w, mg⟩ 3 (f__law_tape)) := by
  have G__law_numbers : FnOk P w K mg base (L2.CX P w) 1 (A 0) (FD 0) ["_law_cell_here", "_law_many"] (spD ⟨K, P, w, mg⟩ 2 (f__law_numbers)) := ok__law_numbers T
  have G__law_cell : FnOk P w K mg base (L2.CX P w) 1 (A 1) (FD 1) ["_law_script", "_law_k"] (spD ⟨K, P, w, mg⟩ 2 (f__law_cell)) := ok__law_cell T
  obtain ⟨dl__law_cell_0, dv__law_cell_0, hb__law_cell_0, hd__law_cell_0, hdd__law_cell_0, hl__law_cell_0⟩ := db0 T.b__law_cell
  obtain ⟨dl__law_numbers_0, dv__law_numbers_0, hb__law_numbers_0, hd__law_numbers_0, hdd__law_numbers_0, hl__law_numbers_0⟩ := db0 T.b__law_numbers
  refine fn_okD (N := ["_law_script", "_law_first", "_law_others", "_law_numbers_here", "_law_cell_here"]) (ps := ["_law_script", "_law_first", "_law_others"]) (k := 1) (den := d__law_tape) T.F__law_tape sc__law_tape fun cdv Ar outer s H E hr => ?_
  have nd := sc__law_tape.nd
  have hu := hr.units
  have hu1 : (Ar.deeper (envOfC "_law_tape" (defScope s__law_tape) s.heap.objs.size (A 2) cdv)).units + 65 < cLine := by have := hr.un; omega
  have hu2 : (Ar.deeper (envOfC "_law_tape" (defScope s__law_tape) s.heap.objs.size (A 2) cdv)).units + 1 < cLine := by omega
  have tk : Takes (cxOf (L2.CX P w) P w K mg base ["_law_script", "_law_first", "_law_others", "_law_numbers_here", "_law_cell_here"] "_law_tape" (defScope s__law_tape) (A 2) cdv Ar outer s H E) (fun cls d _ H => E cls d H) := takes_of rfl rfl rfl rfl
  have po : PassesOwn (model P w) (Ar.deeper (envOfC "_law_tape" (defScope s__law_tape) s.heap.objs.size (A 2) cdv)) (cxOf (L2.CX P w) P w K mg base ["_law_script", "_law_first", "_law_others", "_law_numbers_here", "_law_cell_here"] "_law_tape" (defScope s__law_tape) (A 2) cdv Ar outer s H E).env (cxOf (L2.CX P w) P w K mg base ["_law_script", "_law_first", "_law_others", "_law_numbers_here", "_law_cell_here"] "_law_tape" (defScope s__law_tape) (A 2) cdv Ar outer s H E).xe := passes_of rfl
  exact (dss_cons (ds_set (i := 3) nd rfl (.inl rfl) (de_call G__law_numbers tk (hr.mono (by decide)) (by rfl) T.f__law_numbers T.F__law_numbers.kp T.b__law_numbers (dar_cons (de_call G__law_cell tk (hr.mono (by decide)) (by rfl) T.f__law_cell T.F__law_cell.kp T.b__law_cell (dar_cons (de_var (pv 0)) (dar_cons di_int.e dar_nil))) (dar_cons (de_var (pv 1)) dar_nil))).i.e) (dss_cons (ds_forP po rfl (dpi_seq (de_slice (de_var (pv 0)).o (dp_some di_int) dp_none).i) (dg_name (i := 4) nd rfl (.inl rfl)) (dss_one (ds_set (i := 3) nd rfl (.inl rfl) (de_cat (de_var (pv 3)).o (de_call G__law_numbers tk (hr.mono (by decide)) (by rfl) T.f__law_numbers T.F__law_numbers.kp T.b__law_numbers (dar_cons (de_var (pv 4)).i.e (dar_cons (de_var (pv 2)) dar_nil))).o (pe_op op_cat)).i.e))) (dss_one (ds_ret (de_var (pv 3))))))
theorem ok__law_odd (T : Txt K mg A FD XA) : FnOk P w K mg base (L2.CX P w) 1 (A 3) (FD 3) ["_law_number"] (spD ⟨K, P, w, mg⟩ 1 (f__law_odd)) := by
  refine fn_okD (N := ["_law_number", "_law_odd_here"]) (ps := ["_law_number"]) (k := 0) (den := d__law_odd) T.F__law_odd sc__law_odd fun cdv Ar outer s H E hr => ?_
  have nd := sc__law_odd.nd
  have hu := hr.units
  have hu1 : (Ar.deeper (envOfC "_law_odd" (defScope s__law_odd) s.heap.objs.size (A 3) cdv)).units + 65 < cLine := by have := hr.un; omega
  have hu2 : (Ar.deeper (envOfC "_law_odd" (defScope s__law_odd) s.heap.objs.size (A 3) cdv)).units + 1 < cLine := by omega
  have tk : Takes (cxOf (L2.CX P w) P w K mg base ["_law_number", "_law_odd_here"] "_law_odd" (defScope s__law_odd) (A 3) cdv Ar outer s H E) (fun cls d _ H => E cls d H) := takes_of rfl rfl rfl rfl
  have po : PassesOwn (model P w) (Ar.deeper (envOfC "_law_odd" (defScope s__law_odd) s.heap.objs.size (A 3) cdv)) (cxOf (L2.CX P w) P w K mg base ["_law_number", "_law_odd_here"] "_law_odd" (defScope s__law_odd) (A 3) cdv Ar outer s H E).env (cxOf (L2.CX P w) P w K mg base ["_law_number", "_law_odd_here"] "_law_odd" (defScope s__law_odd) (A 3) cdv Ar outer s H E).xe := passes_of rfl
  exact (dss_cons (ds_set (i := 1) nd rfl (.inl rfl) (de_lst (da_cons di_str (da_cons di_str (da_cons di_str (da_cons di_str (da_cons di_str (da_cons di_str (da_cons di_str (da_cons di_str (da_cons di_str (da_cons di_str (da_cons di_str (da_cons di_str (da_cons di_str (da_cons di_str (da_cons di_str (da_cons di_str da_nil))))))))))))))))).i.e) (dss_cons (ds_set (i := 1) nd rfl (.inl rfl) (de_cat (de_var (pv 1)).o (de_lst (da_cons (di_mulS di_str di_int) (da_cons (di_mulS di_str di_int) (da_cons (di_add di_str (di_mulS di_str di_int)) (da_cons (di_add di_str (di_mulS di_str di_int)) (da_cons (di_add di_str (di_mulS di_str di_int)) (da_cons di_str (da_cons di_str (da_cons di_str da_nil))))))))).o (pe_op op_cat)).i.e) (dss_cons (ds_set (i := 1) nd rfl (.inl rfl) (de_cat (de_var (pv 1)).o (de_lst (da_cons (di_add di_str (di_mulS di_str di_int)) (da_cons (di_add di_str (di_mulS di_str di_int)) (da_cons (di_add di_str (di_mulS di_str di_int)) (da_cons (di_add di_str (di_mulS di_str di_int)) da_nil))))).o (pe_op op_cat)).i.e) (dss_cons (ds_set (i := 1) nd rfl (.inl rfl) (de_cat (de_var (pv 1)).o (de_lst (da_cons (di_add (di_mulS di_str di_int) (di_mulS di_str di_int)) (da_cons (di_add (di_mulS di_str di_int) (di_mulS di_str di_int)) (da_cons (di_add (di_add (di_mulS di_str di_int) di_str) (di_mulS di_str di_int)) (da_cons (di_add (di_mulS di_str di_int) (di_mulS di_str di_int)) da_nil))))).o (pe_op op_cat)).i.e) (dss_one (ds_ret (do_ix (de_var (pv 1)).o (di_mod (di_callTV call_int1 ok_int (by rfl) T.n_int (by decide +kernel) (dv_cons (de_var (pv 0)).v dv_nil)) di_int)).i.e))))))
theorem ok__law_written (T : Txt K mg A FD XA) : ∀ j : Nat, FnOk P w K mg base (L2.CX P w) (1 + j) (A 4) (FD 4) ["_law_value_here"] (spD ⟨K, P, w, mg⟩ 1 (f__law_written j))
  | 0 => by
    refine fn_okD (N := ["_law_value_here", "_law_item"]) (ps := ["_law_value_here"]) (k := 0) (den := (sseq (fun _ => none) (sseq (fun _ => none) (sseq (fun _ => none) (sseq (fun _ => none) (fun _ => none)))))) T.F__law_written sc__law_written fun cdv Ar outer s H E hr => ?_
    exact (dss_cons ds_never (dss_cons ds_never (dss_cons ds_never (dss_cons ds_never (dss_one ds_never)))))
  | j + 1 => by
    have G_rec : FnOk P w K mg base (L2.CX P w) (1 + j) (A 4) (FD 4) ["_law_value_here"] (spD ⟨K, P, w, mg⟩ 1 (f__law_written j)) := ok__law_written T j
    refine fn_okD (N := ["_law_value_here", "_law_item"]) (ps := ["_law_value_here"]) (k := 1 + j) (den := d__law_written (f__law_written j)) T.F__law_written sc__law_written fun cdv Ar outer s H E hr => ?_
    have nd := sc__law_written.nd
    have hu := hr.units
    have hu1 : (Ar.deeper (envOfC "_law_written" (defScope s__law_written) s.heap.objs.size (A 4) cdv)).units + 65 < cLine := by have := hr.un; omega
    have hu2 : (Ar.deeper (envOfC "_law_written" (defScope s__law_written) s.heap.objs.size (A 4) cdv)).units + 1 < cLine := by omega
    have tk : Takes (cxOf (L2.CX P w) P w K mg base ["_law_value_here", "_law_item"] "_law_written" (defScope s__law_written) (A 4) cdv Ar outer s H E) (fun cls d _ H => E cls d H) := takes_of rfl rfl rfl rfl
    have po : PassesOwn (model P w) (Ar.deeper (envOfC "_law_written" (defScope s__law_written) s.heap.objs.size (A 4) cdv)) (cxOf (L2.CX P w) P w K mg base ["_law_value_here", "_law_item"] "_law_written" (defScope s__law_written) (A 4) cdv Ar outer s H E).env (cxOf (L2.CX P w) P w K mg base ["_law_value_here", "_law_item"] "_law_written" (defScope s__law_written) (A 4) cdv Ar outer s H E).xe := passes_of rfl
    exact (dss_cons (ds_if (dt_tru (di_callBV call_isi ok_isi (by rfl) T.n_isinstance (by decide +kernel) (dv_cons (de_var (pv 0)).v (dv_cons (di_ty (by rfl) T.n_bool (by decide +kernel)).v dv_nil))).v) (dss_one (ds_ret (do_ix (de_lst (da_cons di_str (da_cons di_str da_nil))).o (di_callTV call_int1 ok_int (by rfl) T.n_int (by decide +kernel) (dv_cons (de_var (pv 0)).v dv_nil))).i.e)) dss_nil) (dss_cons (ds_if (dt_tru (di_callBV call_isi ok_isi (by rfl) T.n_isinstance (by decide +kernel) (dv_cons (de_var (pv 0)).v (dv_cons (di_ty (by rfl) T.n_int (by decide +kernel)).v dv_nil))).v) (dss_one (ds_ret (di_callTV call_str_int ok_str (by rfl) T.n_str (by decide +kernel) (dv_cons (de_var (pv 0)).v dv_nil)).e)) dss_nil) (dss_cons (ds_if (dt_tru (di_callBV call_isi ok_isi (by rfl) T.n_isinstance (by decide +kernel) (dv_cons (de_var (pv 0)).v (dv_cons (di_ty (by rfl) T.n_str (by decide +kernel)).v dv_nil))).v) (dss_one (ds_ret (di_add (di_add (di_callTV call_str_int ok_str (by rfl) T.n_str (by decide +kernel) (dv_cons (di_callBV call_len ok_len (by rfl) T.n_len (by decide +kernel) (dv_cons (de_var (pv 0)).v dv_nil)).v dv_nil)) di_str) (de_var (pv 0)).i).e)) dss_nil) (dss_cons (ds_if (dt_tru (di_callBV call_isi ok_isi (by rfl) T.n_isinstance (by decide +kernel) (dv_cons (de_var (pv 0)).v (dv_cons (di_ty (by rfl) T.n_tuple (by decide +kernel)).v dv_nil))).v) (dss_one (ds_ret (di_add (di_add di_str (di_join di_str (de_comp (own := [("_law_item", 1)]) rfl nd (dpi_seq (de_var (pv 0)).i) (blkOk_by (N := ["_law_value_here", "_law_item"]) (sc := defScope s__law_written) (by decide +kernel)) (by decide) (by decide) (fun _ _ _ _ _ => (dg_name (i := 1) nd rfl (.inl rfl))) (fun _ _ _ _ _ => dts_nil) (fun _ _ _ _ _ => (de_call G_rec takes0 (hr.mono (by omega)) (by rfl) T.f__law_written T.F__law_written.kp T.b__law_written (dar_cons (de_var (pv 1)).i.e dar_nil)).i.e)).v (fun h1 h2 => pe_bm PySem.F.plainAttrs_str PySem.F.slot_str_join PySem.F.type_str_join mt_join h1 h2))) di_str).e)) dss_nil) (dss_one (ds_ret di_str.e))))))
theorem ok__law_integer (T : Txt K mg A FD XA) : FnOk P w K mg base (L2.CX P w) 1 (A 5) (FD 5) ["_law_cell_here", "_law_number"] (spD ⟨K, P, w, mg⟩ 2 (f__law_integer)) := by
  refine fn_okD (N := ["_law_cell_here", "_law_number", "_law_part", "_law_great"]) (ps := ["_law_cell_here", "_law_number"]) (k := 0) (den := d__law_integer) T.F__law_integer sc__law_integer fun cdv Ar outer s H E hr => ?_
  have nd := sc__law_integer.nd
  have hu := hr.units
  have hu1 : (Ar.deeper (envOfC "_law_integer" (defScope s__law_integer) s.heap.objs.size (A 5) cdv)).units + 65 < cLine := by have := hr.un; omega
  have hu2 : (Ar.deeper (envOfC "_law_integer" (defScope s__law_integer) s.heap.objs.size (A 5) cdv)).units + 1 < cLine := by omega
  have tk : Takes (cxOf (L2.CX P w) P w K mg base ["_law_cell_here", "_law_number", "_law_part", "_law_great"] "_law_integer" (defScope s__law_integer) (A 5) cdv Ar outer s H E) (fun cls d _ H => E cls d H) := takes_of rfl rfl rfl rfl
  have po : PassesOwn (model P w) (Ar.deeper (envOfC "_law_integer" (defScope s__law_integer) s.heap.objs.size (A 5) cdv)) (cxOf (L2.CX P w) P w K mg base ["_law_cell_here", "_law_number", "_law_part", "_law_great"] "_law_integer" (defScope s__law_integer) (A 5) cdv Ar outer s H E).env (cxOf (L2.CX P w) P w K mg base ["_law_cell_here", "_law_number", "_law_part", "_law_great"] "_law_integer" (defScope s__law_integer) (A 5) cdv Ar outer s H E).xe := passes_of rfl
  exact (dss_cons (ds_set (i := 2) nd rfl (.inl rfl) (di_div (de_var (pv 1)).i di_int).e) (dss_cons (ds_if (dt_cmp (op_eqD hu) ok_eq (di_mod (de_var (pv 2)).i di_int).v di_int.v (nomark _)) (dss_one (ds_ret (di_sub (de_var (pv 2)).i di_int).e)) dss_nil) (dss_cons (ds_set (i := 3) nd rfl (.inl rfl) (di_mod (di_callTV call_int1 ok_int (by rfl) T.n_int (by decide +kernel) (dv_cons (di_mulX (di_add (di_callBV call_abs ok_abs (by rfl) T.n_abs (by decide +kernel) (dv_cons (de_var (pv 0)).v dv_nil)) (de_var (pv 2)).i) (do_ix (de_lst (da_cons (di_pow di_int di_int) (da_cons (di_pow di_int di_int) (da_cons (di_pow di_int di_int) (da_cons (di_pow di_int di_int) da_nil))))).o (di_mod (di_callTV call_int1 ok_int (by rfl) T.n_int (by decide +kernel) (dv_cons (di_div (de_var (pv 2)).i di_int).v dv_nil)) di_int)).i).v dv_nil)) (di_pow di_int di_int)).e) (dss_cons (ds_if (dt_cmp (op_eqD hu) ok_eq (di_mod (de_var (pv 2)).i di_int).v di_int.v (nomark _)) (dss_one (ds_set (i := 3) nd rfl (.inl rfl) (di_sub (di_sub (di_pow di_int di_int) di_int) (de_var (pv 3)).i).e)) dss_nil) (dss_cons (ds_if (dt_cmp (op_eqD hu) ok_eq (di_mod (de_var (pv 2)).i di_int).v di_int.v (nomark _)) (dss_one (ds_ret (di_neg (de_var (pv 3)).i).e)) dss_nil) (dss_one (ds_ret (de_var (pv 3)))))))))
theorem ok__law_char (T : Txt K mg A FD XA) : FnOk P w K mg base (L2.CX P w) 1 (A 6) (FD 6) ["_law_number"] (spD ⟨K, P, w, mg⟩ 1 (f__law_char)) := by
  refine fn_okD (N := ["_law_number", "_law_chars"]) (ps := ["_law_number"]) (k := 0) (den := d__law_char) T.F__law_char sc__law_char fun cdv Ar outer s H E hr => ?_
  have nd := sc__law_char.nd
  have hu := hr.units
  have hu1 : (Ar.deeper (envOfC "_law_char" (defScope s__law_char) s.heap.objs.size (A 6) cdv)).units + 65 < cLine := by have := hr.un; omega
  have hu2 : (Ar.deeper (envOfC "_law_char" (defScope s__law_char) s.heap.objs.size (A 6) cdv)).units + 1 < cLine := by omega
  have tk : Takes (cxOf (L2.CX P w) P w K mg base ["_law_number", "_law_chars"] "_law_char" (defScope s__law_char) (A 6) cdv Ar outer s H E) (fun cls d _ H => E cls d H) := takes_of rfl rfl rfl rfl
  have po : PassesOwn (model P w) (Ar.deeper (envOfC "_law_char" (defScope s__law_char) s.heap.objs.size (A 6) cdv)) (cxOf (L2.CX P w) P w K mg base ["_law_number", "_law_chars"] "_law_char" (defScope s__law_char) (A 6) cdv Ar outer s H E).env (cxOf (L2.CX P w) P w K mg base ["_law_number", "_law_chars"] "_law_char" (defScope s__law_char) (A 6) cdv Ar outer s H E).xe := passes_of rfl
  exact (dss_cons (ds_set (i := 1) nd rfl (.inl rfl) di_str.e) (dss_cons (ds_set (i := 1) nd rfl (.inl rfl) (di_add (de_var (pv 1)).i di_str).e) (dss_one (ds_ret (do_ix (de_var (pv 1)).o (di_mod (di_callTV call_int1 ok_int (by rfl) T.n_int (by decide +kernel) (dv_cons (de_var (pv 0)).v dv_nil)) di_int)).i.e))))
theorem ok__law_text (T : Txt K mg A FD XA) : FnOk P w K mg base (L2.CX P w) 2 (A 7) (FD 7) ["_law_number", "_law_size"] (spD ⟨K, P, w, mg⟩ 2 (f__law_text)) := by
  have G__law_char : FnOk P w K mg base (L2.CX P w) 1 (A 6) (FD 6) ["_law_number"] (spD ⟨K, P, w, mg⟩ 1 (f__law_char)) := ok__law_char T
  obtain ⟨dl__law_char_0, dv__law_char_0, hb__law_char_0, hd__law_char_0, hdd__law_char_0, hl__law_char_0⟩ := db0 T.b__law_char
  refine fn_okD (N := ["_law_number", "_law_size", "_law_k"]) (ps := ["_law_number", "_law_size"]) (k := 1) (den := d__law_text) T.F__law_text sc__law_text fun cdv Ar outer s H E hr => ?_
  have nd := sc__law_text.nd
  have hu := hr.units
  have hu1 : (Ar.deeper (envOfC "_law_text" (defScope s__law_text) s.heap.objs.size (A 7) cdv)).units + 65 < cLine := by have := hr.un; omega
  have hu2 : (Ar.deeper (envOfC "_law_text" (defScope s__law_text) s.heap.objs.size (A 7) cdv)).units + 1 < cLine := by omega
  have tk : Takes (cxOf (L2.CX P w) P w K mg base ["_law_number", "_law_size", "_law_k"] "_law_text" (defScope s__law_text) (A 7) cdv Ar outer s H E) (fun cls d _ H => E cls d H) := takes_of rfl rfl rfl rfl
  have po : PassesOwn (model P w) (Ar.deeper (envOfC "_law_text" (defScope s__law_text) s.heap.objs.size (A 7) cdv)) (cxOf (L2.CX P w) P w K mg base ["_law_number", "_law_size", "_law_k"] "_law_text" (defScope s__law_text) (A 7) cdv Ar outer s H E).env (cxOf (L2.CX P w) P w K mg base ["_law_number", "_law_size", "_law_k"] "_law_text" (defScope s__law_text) (A 7) cdv Ar outer s H E).xe := passes_of rfl
  exact (dss_cons (ds_if (dt_cmp (op_eqD hu) ok_eq (di_mod (de_var (pv 0)).i di_int).v di_int.v (nomark _)) (dss_one (ds_ret (di_join di_str (de_comp (own := [("_law_k", 2)]) rfl nd (dpi_range1 (by rfl) T.n_range (da_cons (de_var (pv 1)).i da_nil)) (blkOk_by (N := ["_law_number", "_law_size", "_law_k"]) (sc := defScope s__law_text) (by decide +kernel)) (by decide) (by decide) (fun _ _ _ _ _ => (dg_name (i := 2) nd rfl (.inl rfl))) (fun _ _ _ _ _ => dts_nil) (fun _ _ _ _ _ => (do_ix di_str.e.o (di_mod (di_callTV call_int1 ok_int (by rfl) T.n_int (by decide +kernel) (dv_cons (di_add (di_div (de_var (pv 0)).i di_int) (di_mul (de_var (pv 2)).i (di_add (di_div (de_var (pv 0)).i di_int) di_int))).v dv_nil)) di_int)).i.e)).v (fun h1 h2 => pe_bm PySem.F.plainAttrs_str PySem.F.slot_str_join PySem.F.type_str_join mt_join h1 h2)).e)) dss_nil) (dss_one (ds_ret (di_join di_str (de_comp (own := [("_law_k", 2)]) rfl nd (dpi_range1 (by rfl) T.n_range (da_cons (de_var (pv 1)).i da_nil)) (blkOk_by (N := ["_law_number", "_law_size", "_law_k"]) (sc := defScope s__law_text) (by decide +kernel)) (by decide) (by decide) (fun _ _ _ _ _ => (dg_name (i := 2) nd rfl (.inl rfl))) (fun _ _ _ _ _ => dts_nil) (fun _ _ _ _ _ => (de_call G__law_char takes0 (hr.mono (by decide)) (by rfl) T.f__law_char T.F__law_char.kp T.b__law_char (dar_cons (di_add (de_var (pv 0)).i (di_mul (de_var (pv 2)).i (di_add (di_div (de_var (pv 0)).i di_int) di_int))).e dar_nil)).i.e)).v (fun h1 h2 => pe_bm PySem.F.plainAttrs_str PySem.F.slot_str_join PySem.F.type_str_join mt_join h1 h2)).e)))
theorem ok__law_leaf (T : Txt K mg A FD XA) : FnOk P w K mg base (L2.CX P w) 3 (A 8) (FD 8) ["_law_cell_here", "_law_number"] (spD ⟨K, P, w, mg⟩ 2 (f__law_leaf)) := by
  have G__law_integer : FnOk P w K mg base (L2.CX P w) 1 (A 5) (FD 5) ["_law_cell_here", "_law_number"] (spD ⟨K, P, w, mg⟩ 2 (f__law_integer)) := ok__law_integer T
  have G__law_text : FnOk P w K mg base (L2.CX P w) 2 (A 7) (FD 7) ["_law_number", "_law_size"] (spD ⟨K, P, w, mg⟩ 2 (f__law_text)) := ok__law_text T
  obtain ⟨dl__law_integer_0, dv__law_integer_0, hb__law_integer_0, hd__law_integer_0, hdd__law_integer_0, hl__law_integer_0⟩ := db0 T.b__law_integer
  obtain ⟨dl__law_text_0, dv__law_text_0, hb__law_text_0, hd__law_text_0, hdd__law_text_0, hl__law_text_0⟩ := db0 T.b__law_text
  refine fn_okD (N := ["_law_cell_here", "_law_number", "_law_part", "_law_size"]) (ps := ["_law_cell_here", "_law_number"]) (k := 2) (den := d__law_leaf) T.F__law_leaf sc__law_leaf fun cdv Ar outer s H E hr => ?_
  have nd := sc__law_leaf.nd
  have hu := hr.units
  have hu1 : (Ar.deeper (envOfC "_law_leaf" (defScope s__law_leaf) s.heap.objs.size (A 8) cdv)).units + 65 < cLine := by have := hr.un; omega
  have hu2 : (Ar.deeper (envOfC "_law_leaf" (defScope s__law_leaf) s.heap.objs.size (A 8) cdv)).units + 1 < cLine := by omega
  have tk : Takes (cxOf (L2.CX P w) P w K mg base ["_law_cell_here", "_law_number", "_law_part", "_law_size"] "_law_leaf" (defScope s__law_leaf) (A 8) cdv Ar outer s H E) (fun cls d _ H => E cls d H) := takes_of rfl rfl rfl rfl
  have po : PassesOwn (model P w) (Ar.deeper (envOfC "_law_leaf" (defScope s__law_leaf) s.heap.objs.size (A 8) cdv)) (cxOf (L2.CX P w) P w K mg base ["_law_cell_here", "_law_number", "_law_part", "_law_size"] "_law_leaf" (defScope s__law_leaf) (A 8) cdv Ar outer s H E).env (cxOf (L2.CX P w) P w K mg base ["_law_cell_here", "_law_number", "_law_part", "_law_size"] "_law_leaf" (defScope s__law_leaf) (A 8) cdv Ar outer s H E).xe := passes_of rfl
  exact (dss_cons (ds_set (i := 2) nd rfl (.inl rfl) (di_div (de_var (pv 1)).i di_int).e) (dss_cons (ds_if (dt_cmp (op_eqD hu) ok_eq (di_mod (de_var (pv 1)).i di_int).v di_int.v (nomark _)) (dss_one (ds_ret (di_cmp (op_eqD hu) ok_eq (di_mod (de_var (pv 2)).i di_int).v di_int.v (nomark _)).e)) dss_nil) (dss_cons (ds_if (dw_or (dt_cmp (op_eqD hu) ok_eq (di_mod (de_var (pv 1)).i di_int).v di_int.v (nomark _)) (dw_or1 (dt_cmp (op_eqD hu) ok_eq (di_mod (de_var (pv 1)).i di_int).v di_int.v (nomark _)))).t (dss_one (ds_ret (de_call G__law_integer tk (hr.mono (by decide)) (by rfl) T.f__law_integer T.F__law_integer.kp T.b__law_integer (dar_cons (de_var (pv 0)) (dar_cons (de_var (pv 1)) dar_nil))))) dss_nil) (dss_cons (ds_set (i := 3) nd rfl (.inl rfl) (di_mod (de_var (pv 2)).i di_int).e) (dss_cons (ds_if (dt_cmp (op_eqD hu) ok_eq (di_mod (de_var (pv 2)).i di_int).v di_int.v (nomark _)) (dss_one (ds_set (i := 3) nd rfl (.inl rfl) (do_ix (de_lst (da_cons di_int (da_cons di_int (da_cons di_int (da_cons di_int (da_cons di_int (da_cons di_int (da_cons di_int (da_cons di_int da_nil))))))))).o (di_mod (di_callTV call_int1 ok_int (by rfl) T.n_int (by decide +kernel) (dv_cons (di_div (de_var (pv 2)).i di_int).v dv_nil)) di_int)).i.e)) dss_nil) (dss_one (ds_ret (de_call G__law_text tk (hr.mono (by decide)) (by rfl) T.f__law_text T.F__law_text.kp T.b__law_text (dar_cons (de_var (pv 1)) (dar_cons (de_var (pv 3)).i.e dar_nil))))))))))
theorem ok__law_value (T : Txt K mg A FD XA) : FnOk P w K mg base (L2.CX P w) 4 (A 9) (FD 9) ["_law_script", "_law_numbers_here"] (spD ⟨K, P, w, mg⟩ 2 (f__law_value)) := by
  have G__law_leaf : FnOk P w K mg base (L2.CX P w) 3 (A 8) (FD 8) ["_law_cell_here", "_law_number"] (spD ⟨K, P, w, mg⟩ 2 (f__law_leaf)) := ok__law_leaf T
  have G__law_cell : FnOk P w K mg base (L2.CX P w) 1 (A 1) (FD 1) ["_law_script", "_law_k"] (spD ⟨K, P, w, mg⟩ 2 (f__law_cell)) := ok__law_cell T
  obtain ⟨dl__law_cell_0, dv__law_cell_0, hb__law_cell_0, hd__law_cell_0, hdd__law_cell_0, hl__law_cell_0⟩ := db0 T.b__law_cell
  obtain ⟨dl__law_leaf_0, dv__law_leaf_0, hb__law_leaf_0, hd__law_leaf_0, hdd__law_leaf_0, hl__law_leaf_0⟩ := db0 T.b__law_leaf
  refine fn_okD (N := ["_law_script", "_law_numbers_here", "_law_values", "_law_depths", "_law_k", "_law_number", "_law_many", "_law_depth", "_law_taken"]) (ps := ["_law_script", "_law_numbers_here"]) (k := 3) (den := d__law_value) T.F__law_value sc__law_value fun cdv Ar outer s H E hr => ?_
  have nd := sc__law_value.nd
  have hu := hr.units
  have hu1 : (Ar.deeper (envOfC "_law_value" (defScope s__law_value) s.heap.objs.size (A 9) cdv)).units + 65 < cLine := by have := hr.un; omega
  have hu2 : (Ar.deeper (envOfC "_law_value" (defScope s__law_value) s.heap.objs.size (A 9) cdv)).units + 1 < cLine := by omega
  have tk : Takes (cxOf (L2.CX P w) P w K mg base ["_law_script", "_law_numbers_here", "_law_values", "_law_depths", "_law_k", "_law_number", "_law_many", "_law_depth", "_law_taken"] "_law_value" (defScope s__law_value) (A 9) cdv Ar outer s H E) (fun cls d _ H => E cls d H) := takes_of rfl rfl rfl rfl
  have po : PassesOwn (model P w) (Ar.deeper (envOfC "_law_value" (defScope s__law_value) s.heap.objs.size (A 9) cdv)) (cxOf (L2.CX P w) P w K mg base ["_law_script", "_law_numbers_here", "_law_values", "_law_depths", "_law_k", "_law_number", "_law_many", "_law_depth", "_law_taken"] "_law_value" (defScope s__law_value) (A 9) cdv Ar outer s H E).env (cxOf (L2.CX P w) P w K mg base ["_law_script", "_law_numbers_here", "_law_values", "_law_depths", "_law_k", "_law_number", "_law_many", "_law_depth", "_law_taken"] "_law_value" (defScope s__law_value) (A 9) cdv Ar outer s H E).xe := passes_of rfl
  exact (dss_cons (ds_set (i := 2) nd rfl (.inl rfl) (de_lst da_nil)) (dss_cons (ds_set (i := 3) nd rfl (.inl rfl) (de_lst da_nil)) (dss_cons (ds_forP po rfl (dpi_range1 (by rfl) T.n_range (da_cons (di_callBV call_len ok_len (by rfl) T.n_len (by decide +kernel) (dv_cons (de_var (pv 1)).v dv_nil)) da_nil)) (dg_name (i := 4) nd rfl (.inl rfl)) (dss_cons (ds_set (i := 5) nd rfl (.inl rfl) (do_ix (de_var (pv 1)).o (de_var (pv 4)).i).i.e) (dss_cons (ds_set (i := 6) nd rfl (.inl rfl) di_int.e) (dss_cons (ds_if (dw_or (dt_cmp (op_eqD hu) ok_eq (di_mod (de_var (pv 5)).i di_int).v di_int.v (nomark _)) (dw_or1 (dt_cmp (op_eqD hu) ok_eq (di_mod (de_var (pv 5)).i di_int).v di_int.v (nomark _)))).t (dss_one (ds_set (i := 6) nd rfl (.inl rfl) (di_callBV (call_min2 rfl) ok_min (by rfl) T.n_min (by decide +kernel) (dv_cons (di_mod (di_div (de_var (pv 5)).i di_int) di_int).v (dv_cons (di_callBV call_len ok_len (by rfl) T.n_len (by decide +kernel) (dv_cons (de_var (pv 2)).v dv_nil)).v dv_nil))).e)) dss_nil) (dss_cons (ds_if (dt_cmp (op_eqD hu) ok_eq (di_mod (de_var (pv 5)).i di_int).v di_int.v (nomark _)) (dss_one (ds_set (i := 6) nd rfl (.inl rfl) (di_callBV (call_min2 rfl) ok_min (by rfl) T.n_min (by decide +kernel) (dv_cons di_int.v (dv_cons (di_callBV call_len ok_len (by rfl) T.n_len (by decide +kernel) (dv_cons (de_var (pv 2)).v dv_nil)).v dv_nil))).e)) dss_nil) (dss_cons (ds_set (i := 7) nd rfl (.inl rfl) (di_add (di_callBV (cr_max rfl) ok_maxL (by rfl) T.n_max (by decide +kernel) (dv_cons (de_cat (de_lst (da_cons di_int da_nil)).o (de_slice (de_var (pv 3)).o (dp_some (di_sub (di_callBV call_len ok_len (by rfl) T.n_len (by decide +kernel) (dv_cons (de_var (pv 2)).v dv_nil)) (de_var (pv 6)).i)) dp_none).o (pe_op op_cat)).v dv_nil)) di_int).e) (dss_one (ds_if (dw_and (dt_cmp op_ge ok_ge (di_mod (de_var (pv 5)).i di_int).v di_int.v (nomark _)) (dw_and1 (dt_cmp op_le ok_le (de_var (pv 7)).v di_int.v (nomark _)))).t (dss_cons (ds_set (i := 8) nd rfl (.inl rfl) (de_slice (de_var (pv 2)).o (dp_some (di_sub (di_callBV call_len ok_len (by rfl) T.n_len (by decide +kernel) (dv_cons (de_var (pv 2)).v dv_nil)) (de_var (pv 6)).i)) dp_none).i.e) (dss_cons (ds_set (i := 2) nd rfl (.inl rfl) (de_cat (de_slice (de_var (pv 2)).o dp_none (dp_some (di_sub (di_callBV call_len ok_len (by rfl) T.n_len (by decide +kernel) (dv_cons (de_var (pv 2)).v dv_nil)) (de_var (pv 6)).i))).o (de_lst (da_cons (di_tupV (by rfl) T.n_tuple (by decide +kernel) (de_var (pv 8)).o) da_nil)).o (pe_op op_cat))) (dss_one (ds_set (i := 3) nd rfl (.inl rfl) (de_cat (de_slice (de_var (pv 3)).o dp_none (dp_some (di_sub (di_callBV call_len ok_len (by rfl) T.n_len (by decide +kernel) (dv_cons (de_var (pv 3)).v dv_nil)) (de_var (pv 6)).i))).o (de_lst (da_cons (de_var (pv 7)).i da_nil)).o (pe_op op_cat)))))) (dss_cons (ds_app (i := 2) (pv 2) (de_call G__law_leaf tk (hr.mono (by decide)) (by rfl) T.f__law_leaf T.F__law_leaf.kp T.b__law_leaf (dar_cons (de_call G__law_cell tk (hr.mono (by decide)) (by rfl) T.f__law_cell T.F__law_cell.kp T.b__law_cell (dar_cons (de_var (pv 0)) (dar_cons (de_var (pv 4)).i.e dar_nil))) (dar_cons (de_var (pv 5)).i.e dar_nil))).i.e (fun h => pe_bm PySem.F.plainAttrs_list PySem.F.slot_list_append PySem.F.type_list_append mt_append (pv 2) h)) (dss_one (ds_app (i := 3) (pv 3) di_int.e (fun h => pe_bm PySem.F.plainAttrs_list PySem.F.slot_list_append PySem.F.type_list_append mt_append (pv 3) h)))))))))))) (dss_cons (ds_if (dt_cmp (op_eqD hu) ok_eq (di_callBV call_len ok_len (by rfl) T.n_len (by decide +kernel) (dv_cons (de_var (pv 2)).v dv_nil)).v di_int.v (nomark _)) (dss_one (ds_ret (do_ix (de_var (pv 2)).o di_int).i.e)) dss_nil) (dss_one (ds_ret (di_tupV (by rfl) T.n_tuple (by decide +kernel) (de_var (pv 2)).o).e))))))
theorem ok__law_spoilt (T : Txt K mg A FD XA) : FnOk P w K mg base (L2.CX P w) 1 (A 10) (FD 10) ["_law_text_here", "_law_way", "_law_number"] (spD ⟨K, P, w, mg⟩ 3 (f__law_spoilt)) := by
  refine fn_okD (N := ["_law_text_here", "_law_way", "_law_number", "_law_sign", "_law_place"]) (ps := ["_law_text_here", "_law_way", "_law_number"]) (k := 0) (den := d__law_spoilt) T.F__law_spoilt sc__law_spoilt fun cdv Ar outer s H E hr => ?_
  have nd := sc__law_spoilt.nd
  have hu := hr.units
  have hu1 : (Ar.deeper (envOfC "_law_spoilt" (defScope s__law_spoilt) s.heap.objs.size (A 10) cdv)).units + 65 < cLine := by have := hr.un; omega
  have hu2 : (Ar.deeper (envOfC "_law_spoilt" (defScope s__law_spoilt) s.heap.objs.size (A 10) cdv)).units + 1 < cLine := by omega
  have tk : Takes (cxOf (L2.CX P w) P w K mg base ["_law_text_here", "_law_way", "_law_number", "_law_sign", "_law_place"] "_law_spoilt" (defScope s__law_spoilt) (A 10) cdv Ar outer s H E) (fun cls d _ H => E cls d H) := takes_of rfl rfl rfl rfl
  have po : PassesOwn (model P w) (Ar.deeper (envOfC "_law_spoilt" (defScope s__law_spoilt) s.heap.objs.size (A 10) cdv)) (cxOf (L2.CX P w) P w K mg base ["_law_text_here", "_law_way", "_law_number", "_law_sign", "_law_place"] "_law_spoilt" (defScope s__law_spoilt) (A 10) cdv Ar outer s H E).env (cxOf (L2.CX P w) P w K mg base ["_law_text_here", "_law_way", "_law_number", "_law_sign", "_law_place"] "_law_spoilt" (defScope s__law_spoilt) (A 10) cdv Ar outer s H E).xe := passes_of rfl
  exact (dss_cons (ds_set (i := 3) nd rfl (.inl rfl) (do_ix di_str.e.o (di_mod (di_callTV call_int1 ok_int (by rfl) T.n_int (by decide +kernel) (dv_cons (di_div (de_var (pv 2)).i di_int).v dv_nil)) di_int)).i.e) (dss_cons (ds_set (i := 4) nd rfl (.inl rfl) (di_mod (di_callTV call_int1 ok_int (by rfl) T.n_int (by decide +kernel) (dv_cons (di_add (di_mul (de_var (pv 2)).i di_int) (di_div (de_var (pv 2)).i di_int)).v dv_nil)) (di_add (di_callBV call_len ok_len (by rfl) T.n_len (by decide +kernel) (dv_cons (de_var (pv 0)).v dv_nil)) di_int)).e) (dss_cons (ds_if (dt_cmp (op_eqD hu) ok_eq (di_mod (de_var (pv 1)).i di_int).v di_int.v (nomark _)) (dss_one (ds_ret (di_add (de_slice (de_var (pv 0)).o dp_none (dp_some (de_var (pv 4)).i)).i (de_slice (de_var (pv 0)).o (dp_some (di_add (de_var (pv 4)).i di_int)) dp_none).i).e)) dss_nil) (dss_cons (ds_if (dt_cmp (op_eqD hu) ok_eq (di_mod (de_var (pv 1)).i di_int).v di_int.v (nomark _)) (dss_one (ds_ret (di_add (di_add (de_slice (de_var (pv 0)).o dp_none (dp_some (de_var (pv 4)).i)).i (de_var (pv 3)).i) (de_slice (de_var (pv 0)).o (dp_some (de_var (pv 4)).i) dp_none).i).e)) dss_nil) (dss_cons (ds_if (dt_cmp (op_eqD hu) ok_eq (di_mod (de_var (pv 1)).i di_int).v di_int.v (nomark _)) (dss_one (ds_ret (di_add (di_add (de_slice (de_var (pv 0)).o dp_none (dp_some (de_var (pv 4)).i)).i (de_var (pv 3)).i) (de_slice (de_var (pv 0)).o (dp_some (di_add (de_var (pv 4)).i di_int)) dp_none).i).e)) dss_nil) (dss_cons (ds_if (dt_cmp (op_eqD hu) ok_eq (di_mod (de_var (pv 1)).i di_int).v di_int.v (nomark _)) (dss_one (ds_ret (di_add (di_add (de_slice (de_var (pv 0)).o dp_none (dp_some (de_var (pv 4)).i)).i (de_slice (de_var (pv 0)).o (dp_some (de_var (pv 4)).i) (dp_some (di_add (de_var (pv 4)).i di_int))).i) (de_slice (de_var (pv 0)).o (dp_some (de_var (pv 4)).i) dp_none).i).e)) dss_nil) (dss_cons (ds_if (dt_cmp (op_eqD hu) ok_eq (di_mod (de_var (pv 1)).i di_int).v di_int.v (nomark _)) (dss_one (ds_ret (di_add (di_add (di_add (de_slice (de_var (pv 0)).o dp_none (dp_some (de_var (pv 4)).i)).i (de_slice (de_var (pv 0)).o (dp_some (di_add (de_var (pv 4)).i di_int)) (dp_some (di_add (de_var (pv 4)).i di_int))).i) (de_slice (de_var (pv 0)).o (dp_some (de_var (pv 4)).i) (dp_some (di_add (de_var (pv 4)).i di_int))).i) (de_slice (de_var (pv 0)).o (dp_some (di_add (de_var (pv 4)).i di_int)) dp_none).i).e)) dss_nil) (dss_one (ds_ret (de_slice (de_var (pv 0)).o dp_none (dp_some (de_var (pv 4)).i)))))))))))
theorem ok__law_drawn_text (T : Txt K mg A FD XA) : FnOk P w K mg base (L2.CX P w) 22 (A 11) (FD 11) ["_law_script", "_law_numbers_here"] (spD ⟨K, P, w, mg⟩ 2 (f__law_drawn_text)) := by
  have G__law_odd : FnOk P w K mg base (L2.CX P w) 1 (A 3) (FD 3) ["_law_number"] (spD ⟨K, P, w, mg⟩ 1 (f__law_odd)) := ok__law_odd T
  have G__law_written : FnOk P w K mg base (L2.CX P w) 21 (A 4) (FD 4) ["_law_value_here"] (spD ⟨K, P, w, mg⟩ 1 (f__law_written 20)) := ok__law_written T 20
  have G__law_value : FnOk P w K mg base (L2.CX P w) 4 (A 9) (FD 9) ["_law_script", "_law_numbers_here"] (spD ⟨K, P, w, mg⟩ 2 (f__law_value)) := ok__law_value T
  have G__law_spoilt : FnOk P w K mg base (L2.CX P w) 1 (A 10) (FD 10) ["_law_text_here", "_law_way", "_law_number"] (spD ⟨K, P, w, mg⟩ 3 (f__law_spoilt)) := ok__law_spoilt T
  obtain ⟨dl__law_odd_0, dv__law_odd_0, hb__law_odd_0, hd__law_odd_0, hdd__law_odd_0, hl__law_odd_0⟩ := db0 T.b__law_odd
  obtain ⟨dl__law_spoilt_0, dv__law_spoilt_0, hb__law_spoilt_0, hd__law_spoilt_0, hdd__law_spoilt_0, hl__law_spoilt_0⟩ := db0 T.b__law_spoilt
  obtain ⟨dl__law_value_0, dv__law_value_0, hb__law_value_0, hd__law_value_0, hdd__law_value_0, hl__law_value_0⟩ := db0 T.b__law_value
  obtain ⟨dl__law_written_0, dv__law_written_0, hb__law_written_0, hd__law_written_0, hdd__law_written_0, hl__law_written_0⟩ := db0 T.b__law_written
  refine fn_okD (N := ["_law_script", "_law_numbers_here", "_law_many", "_law_text_here", "_law_k"]) (ps := ["_law_script", "_law_numbers_here"]) (k := 21) (den := d__law_drawn_text) T.F__law_drawn_text sc__law_drawn_text fun cdv Ar outer s H E hr => ?_
  have nd := sc__law_drawn_text.nd
  have hu := hr.units
  have hu1 : (Ar.deeper (envOfC "_law_drawn_text" (defScope s__law_drawn_text) s.heap.objs.size (A 11) cdv)).units + 65 < cLine := by have := hr.un; omega
  have hu2 : (Ar.deeper (envOfC "_law_drawn_text" (defScope s__law_drawn_text) s.heap.objs.size (A 11) cdv)).units + 1 < cLine := by omega
  have tk : Takes (cxOf (L2.CX P w) P w K mg base ["_law_script", "_law_numbers_here", "_law_many", "_law_text_here", "_law_k"] "_law_drawn_text" (defScope s__law_drawn_text) (A 11) cdv Ar outer s H E) (fun cls d _ H => E cls d H) := takes_of rfl rfl rfl rfl
  have po : PassesOwn (model P w) (Ar.deeper (envOfC "_law_drawn_text" (defScope s__law_drawn_text) s.heap.objs.size (A 11) cdv)) (cxOf (L2.CX P w) P w K mg base ["_law_script", "_law_numbers_here", "_law_many", "_law_text_here", "_law_k"] "_law_drawn_text" (defScope s__law_drawn_text) (A 11) cdv Ar outer s H E).env (cxOf (L2.CX P w) P w K mg base ["_law_script", "_law_numbers_here", "_law_many", "_law_text_here", "_law_k"] "_law_drawn_text" (defScope s__law_drawn_text) (A 11) cdv Ar outer s H E).xe := passes_of rfl
  exact (dss_cons (ds_if (dt_cmp (op_eqD hu) ok_eq (di_mod (do_ix (de_var (pv 1)).o di_int).i di_int).v di_int.v (nomark _)) (dss_one (ds_ret (de_call G__law_odd tk (hr.mono (by decide)) (by rfl) T.f__law_odd T.F__law_odd.kp T.b__law_odd (dar_cons (do_ix (de_var (pv 1)).o di_int).i.e dar_nil)))) dss_nil) (dss_cons (ds_if (dt_cmp (op_eqD hu) ok_eq (di_mod (do_ix (de_var (pv 1)).o di_int).i di_int).v di_int.v (nomark _)) (dss_cons (ds_set (i := 2) nd rfl (.inl rfl) (di_callBV (call_min2 rfl) ok_min (by rfl) T.n_min (by decide +kernel) (dv_cons (di_mod (do_ix (de_var (pv 1)).o di_int).i di_int).v (dv_cons (di_sub (di_callBV call_len ok_len (by rfl) T.n_len (by decide +kernel) (dv_cons (de_var (pv 1)).v dv_nil)) di_int).v dv_nil))).e) (dss_one (ds_ret (di_join di_str (de_comp (own := [("_law_k", 4)]) rfl nd (dpi_range1 (by rfl) T.n_range (da_cons (de_var (pv 2)).i da_nil)) (blkOk_by (N := ["_law_script", "_law_numbers_here", "_law_many", "_law_text_here", "_law_k"]) (sc := defScope s__law_drawn_text) (by decide +kernel)) (by decide) (by decide) (fun _ _ _ _ _ => (dg_name (i := 4) nd rfl (.inl rfl))) (fun _ _ _ _ _ => dts_nil) (fun _ _ _ _ _ => (do_ix di_str.e.o (di_mod (di_callTV call_int1 ok_int (by rfl) T.n_int (by decide +kernel) (dv_cons (do_ix (de_var (pv 1)).o (di_add (de_var (pv 4)).i di_int)).v dv_nil)) di_int)).i.e)).v (fun h1 h2 => pe_bm PySem.F.plainAttrs_str PySem.F.slot_str_join PySem.F.type_str_join mt_join h1 h2)).e))) dss_nil) (dss_cons (ds_set (i := 3) nd rfl (.inl rfl) (de_call G__law_written tk (hr.mono (by decide)) (by rfl) T.f__law_written T.F__law_written.kp T.b__law_written (dar_cons (de_call G__law_value tk (hr.mono (by decide)) (by rfl) T.f__law_value T.F__law_value.kp T.b__law_value (dar_cons (de_var (pv 0)) (dar_cons (de_slice (de_var (pv 1)).o (dp_some di_int) dp_none) dar_nil))) dar_nil)).i.e) (dss_cons (ds_if (dt_cmp (op_eqD hu) ok_eq (di_mod (do_ix (de_var (pv 1)).o di_int).i di_int).v di_int.v (nomark _)) (dss_one (ds_set (i := 3) nd rfl (.inl rfl) (di_add (di_add (di_mulS di_str (di_add (di_mod (do_ix (de_var (pv 1)).o di_int).i di_int) di_int)) (de_var (pv 3)).i) (di_mulS di_str (di_add (di_mod (do_ix (de_var (pv 1)).o di_int).i di_int) di_int))).e)) dss_nil) (dss_cons (ds_forP po rfl (dpi_range1 (by rfl) T.n_range (da_cons (di_mod (do_ix (de_var (pv 1)).o di_int).i di_int) da_nil)) (dg_name (i := 4) nd rfl (.inl rfl)) (dss_one (ds_set (i := 3) nd rfl (.inl rfl) (de_call G__law_spoilt tk (hr.mono (by decide)) (by rfl) T.f__law_spoilt T.F__law_spoilt.kp T.b__law_spoilt (dar_cons (de_var (pv 3)).i.e (dar_cons (do_ix (de_var (pv 1)).o (di_add di_int (de_var (pv 4)).i)).i.e (dar_cons (do_ix (de_var (pv 1)).o (di_add di_int (de_var (pv 4)).i)).i.e dar_nil)))).i.e))) (dss_one (ds_ret (de_var (pv 3)))))))))
theorem ok__law_atom_end (T : Txt K mg A FD XA) : FnOk P w K mg base (L2.CX P w) 1 (A 12) (FD 12) ["_law_text_here", "_law_at"] (spD ⟨K, P, w, mg⟩ 2 (f__law_atom_end)) := by
  refine fn_okD (N := ["_law_text_here", "_law_at", "_law_start", "_law_end", "_law_k"]) (ps := ["_law_text_here", "_law_at"]) (k := 0) (den := d__law_atom_end) T.F__law_atom_end sc__law_atom_end fun cdv Ar outer s H E hr => ?_
  have nd := sc__law_atom_end.nd
  have hu := hr.units
  have hu1 : (Ar.deeper (envOfC "_law_atom_end" (defScope s__law_atom_end) s.heap.objs.size (A 12) cdv)).units + 65 < cLine := by have := hr.un; omega
  have hu2 : (Ar.deeper (envOfC "_law_atom_end" (defScope s__law_atom_end) s.heap.objs.size (A 12) cdv)).units + 1 < cLine := by omega
  have tk : Takes (cxOf (L2.CX P w) P w K mg base ["_law_text_here", "_law_at", "_law_start", "_law_end", "_law_k"] "_law_atom_end" (defScope s__law_atom_end) (A 12) cdv Ar outer s H E) (fun cls d _ H => E cls d H) := takes_of rfl rfl rfl rfl
  have po : PassesOwn (model P w) (Ar.deeper (envOfC "_law_atom_end" (defScope s__law_atom_end) s.heap.objs.size (A 12) cdv)) (cxOf (L2.CX P w) P w K mg base ["_law_text_here", "_law_at", "_law_start", "_law_end", "_law_k"] "_law_atom_end" (defScope s__law_atom_end) (A 12) cdv Ar outer s H E).env (cxOf (L2.CX P w) P w K mg base ["_law_text_here", "_law_at", "_law_start", "_law_end", "_law_k"] "_law_atom_end" (defScope s__law_atom_end) (A 12) cdv Ar outer s H E).xe := passes_of rfl
  exact (dss_cons (ds_if (dw_or (dt_cmp (op_eqD hu) ok_eq (de_slice (de_var (pv 0)).o (dp_some (de_var (pv 1)).i) (dp_some (di_add (de_var (pv 1)).i di_int))).v di_str.v (nomark _)) (dw_or1 (dt_cmp (op_eqD hu) ok_eq (de_slice (de_var (pv 0)).o (dp_some (de_var (pv 1)).i) (dp_some (di_add (de_var (pv 1)).i di_int))).v di_str.v (nomark _)))).t (dss_one (ds_ret (di_add (de_var (pv 1)).i di_int).e)) dss_nil) (dss_cons (ds_set (i := 2) nd rfl (.inl rfl) (de_var (pv 1)).i.e) (dss_cons (ds_if (dt_cmp (op_eqD hu) ok_eq (de_slice (de_var (pv 0)).o (dp_some (de_var (pv 1)).i) (dp_some (di_add (de_var (pv 1)).i di_int))).v di_str.v (nomark _)) (dss_one (ds_set (i := 2) nd rfl (.inl rfl) (di_add (de_var (pv 1)).i di_int).e)) dss_nil) (dss_cons (ds_set (i := 3) nd rfl (.inl rfl) (de_var (pv 2)).i.e) (dss_cons (ds_forP po rfl (dpi_range1 (by rfl) T.n_range (da_cons di_int da_nil)) (dg_name (i := 4) nd rfl (.inl rfl)) (dss_cons (ds_if (dw_or (dt_cmp (op_eqD hu) ok_eq (de_var (pv 3)).v (di_callBV call_len ok_len (by rfl) T.n_len (by decide +kernel) (dv_cons (de_var (pv 0)).v dv_nil)).v (nomark _)) (dw_or (dt_cmp (op_notin3 hu1) ok_notin (do_ix (de_var (pv 0)).o (de_var (pv 3)).i).v di_str.v (by rfl)) (dw_or1 (dw_and (dt_cmp (op_eqD hu) ok_eq (de_var (pv 3)).v (di_add (de_var (pv 2)).i di_int).v (nomark _)) (dw_and1 (dt_cmp (op_eqD hu) ok_eq (do_ix (de_var (pv 0)).o (de_var (pv 2)).i).v di_str.v (nomark _)))).t))).t (dss_one ds_break) dss_nil) (dss_one (ds_set (i := 3) nd rfl (.inl rfl) (di_add (de_var (pv 3)).i di_int).e)))) (dss_cons (ds_if (dw_or (dt_cmp (op_eqD hu) ok_eq (de_var (pv 3)).v (de_var (pv 2)).v (nomark _)) (dw_or1 (dw_and (dt_cmp op_gt ok_gt (de_var (pv 2)).v (de_var (pv 1)).v (nomark _)) (dw_and1 (dt_cmp (op_eqD hu) ok_eq (do_ix (de_var (pv 0)).o (de_var (pv 2)).i).v di_str.v (nomark _)))).t)).t (dss_one (ds_ret (di_sub (di_neg di_int) (de_var (pv 2)).i).e)) dss_nil) (dss_cons (ds_if (dw_or (dt_cmp op_gt ok_gt (de_var (pv 2)).v (de_var (pv 1)).v (nomark _)) (dw_or (dt_cmp (op_neD hu) ok_ne (de_slice (de_var (pv 0)).o (dp_some (de_var (pv 3)).i) (dp_some (di_add (de_var (pv 3)).i di_int))).v di_str.v (nomark _)) (dw_or1 (dt_cmp op_gt ok_gt (di_callTV call_int_str ok_intS (by rfl) T.n_int (by decide +kernel) (dv_cons (de_slice (de_var (pv 0)).o (dp_some (de_var (pv 1)).i) (dp_some (de_var (pv 3)).i)).v dv_nil)).v di_int.v (nomark _))))).t (dss_one (ds_ret (de_var (pv 3)))) dss_nil) (dss_cons (ds_if (dt_cmp op_gt ok_gt (di_add (di_add (de_var (pv 3)).i di_int) (di_callTV call_int_str ok_intS (by rfl) T.n_int (by decide +kernel) (dv_cons (de_slice (de_var (pv 0)).o (dp_some (de_var (pv 1)).i) (dp_some (de_var (pv 3)).i)).v dv_nil))).v (di_callBV call_len ok_len (by rfl) T.n_len (by decide +kernel) (dv_cons (de_var (pv 0)).v dv_nil)).v (nomark _)) (dss_one (ds_ret (di_sub (di_neg di_int) (di_callBV call_len ok_len (by rfl) T.n_len (by decide +kernel) (dv_cons (de_var (pv 0)).v dv_nil))).e)) dss_nil) (dss_one (ds_ret (di_add (di_add (de_var (pv 3)).i di_int) (di_callTV call_int_str ok_intS (by rfl) T.n_int (by decide +kernel) (dv_cons (de_slice (de_var (pv 0)).o (dp_some (de_var (pv 1)).i) (dp_some (de_var (pv 3)).i)).v dv_nil))).e))))))))))
theorem ok__law_fault (T : Txt K mg A FD XA) : FnOk P w K mg base (L2.CX P w) 2 (A 13) (FD 13) ["_law_text_here"] (spD ⟨K, P, w, mg⟩ 1 (f__law_fault)) := by
  have G__law_atom_end : FnOk P w K mg base (L2.CX P w) 1 (A 12) (FD 12) ["_law_text_here", "_law_at"] (spD ⟨K, P, w, mg⟩ 2 (f__law_atom_end)) := ok__law_atom_end T
  obtain ⟨dl__law_atom_end_0, dv__law_atom_end_0, hb__law_atom_end_0, hd__law_atom_end_0, hdd__law_atom_end_0, hl__law_atom_end_0⟩ := db0 T.b__law_atom_end
  refine fn_okD (N := ["_law_text_here", "_law_at", "_law_depth", "_law_turn", "_law_opened", "_law_end", "_law_k"]) (ps := ["_law_text_here"]) (k := 1) (den := d__law_fault) T.F__law_fault sc__law_fault fun cdv Ar outer s H E hr => ?_
  have nd := sc__law_fault.nd
  have hu := hr.units
  have hu1 : (Ar.deeper (envOfC "_law_fault" (defScope s__law_fault) s.heap.objs.size (A 13) cdv)).units + 65 < cLine := by have := hr.un; omega
  have hu2 : (Ar.deeper (envOfC "_law_fault" (defScope s__law_fault) s.heap.objs.size (A 13) cdv)).units + 1 < cLine := by omega
  have tk : Takes (cxOf (L2.CX P w) P w K mg base ["_law_text_here", "_law_at", "_law_depth", "_law_turn", "_law_opened", "_law_end", "_law_k"] "_law_fault" (defScope s__law_fault) (A 13) cdv Ar outer s H E) (fun cls d _ H => E cls d H) := takes_of rfl rfl rfl rfl
  have po : PassesOwn (model P w) (Ar.deeper (envOfC "_law_fault" (defScope s__law_fault) s.heap.objs.size (A 13) cdv)) (cxOf (L2.CX P w) P w K mg base ["_law_text_here", "_law_at", "_law_depth", "_law_turn", "_law_opened", "_law_end", "_law_k"] "_law_fault" (defScope s__law_fault) (A 13) cdv Ar outer s H E).env (cxOf (L2.CX P w) P w K mg base ["_law_text_here", "_law_at", "_law_depth", "_law_turn", "_law_opened", "_law_end", "_law_k"] "_law_fault" (defScope s__law_fault) (A 13) cdv Ar outer s H E).xe := passes_of rfl
  exact (dss_cons (ds_set (i := 1) nd rfl (.inl rfl) di_int.e) (dss_cons (ds_set (i := 2) nd rfl (.inl rfl) di_int.e) (dss_cons (ds_forP po rfl (dpi_range1 (by rfl) T.n_range (da_cons (di_add (di_callBV call_len ok_len (by rfl) T.n_len (by decide +kernel) (dv_cons (de_var (pv 0)).v dv_nil)) di_int) da_nil)) (dg_name (i := 3) nd rfl (.inl rfl)) (dss_cons (ds_set (i := 4) nd rfl (.inl rfl) (di_cmp (op_eqD hu) ok_eq (de_slice (de_var (pv 0)).o (dp_some (de_var (pv 1)).i) (dp_some (di_add (de_var (pv 1)).i di_int))).v di_str.v (nomark _)).e) (dss_cons (ds_if (dw_and (dt_tru (de_var (pv 4)).v) (dw_and1 (dt_cmp (op_eqD hu) ok_eq (de_var (pv 2)).v di_int.v (nomark _)))).t (dss_one (ds_ret (de_var (pv 1)))) dss_nil) (dss_cons (ds_if (dt_tru (de_var (pv 4)).v) (dss_cons (ds_set (i := 2) nd rfl (.inl rfl) (di_add (de_var (pv 2)).i di_int).e) (dss_one (ds_set (i := 1) nd rfl (.inl rfl) (di_add (de_var (pv 1)).i di_int).e))) (dss_cons (ds_set (i := 5) nd rfl (.inl rfl) (de_call G__law_atom_end tk (hr.mono (by decide)) (by rfl) T.f__law_atom_end T.F__law_atom_end.kp T.b__law_atom_end (dar_cons (de_var (pv 0)) (dar_cons (de_var (pv 1)).i.e dar_nil))).i.e) (dss_cons (ds_if (dt_cmp op_lt2 ok_lt (de_var (pv 5)).v di_int.v (nomark _)) (dss_one (ds_ret (di_sub (di_neg di_int) (de_var (pv 5)).i).e)) dss_nil) (dss_one (ds_set (i := 1) nd rfl (.inl rfl) (de_var (pv 5)).i.e))))) (dss_cons (ds_if (dw_and (dt_tru (de_var (pv 4)).v) (dw_and1 (dt_cmp (op_neD hu) ok_ne (de_slice (de_var (pv 0)).o (dp_some (de_var (pv 1)).i) (dp_some (di_add (de_var (pv 1)).i di_int))).v di_str.v (nomark _)))).t (dss_one ds_cont) dss_nil) (dss_cons (ds_forP po rfl (dpi_range1 (by rfl) T.n_range (da_cons (de_var (pv 2)).i da_nil)) (dg_name (i := 6) nd rfl (.inl rfl)) (dss_one (ds_if (dt_cmp (op_eqD hu) ok_eq (de_slice (de_var (pv 0)).o (dp_some (de_var (pv 1)).i) (dp_some (di_add (de_var (pv 1)).i di_int))).v di_str.v (nomark _)) (dss_cons (ds_set (i := 2) nd rfl (.inl rfl) (di_sub (de_var (pv 2)).i di_int).e) (dss_one (ds_set (i := 1) nd rfl (.inl rfl) (di_add (de_var (pv 1)).i di_int).e))) dss_nil))) (dss_cons (ds_if (dw_and (dt_cmp (op_eqD hu) ok_eq (de_var (pv 2)).v di_int.v (nomark _)) (dw_and1 (dt_cmp (op_eqD hu) ok_eq (de_var (pv 1)).v (di_callBV call_len ok_len (by rfl) T.n_len (by decide +kernel) (dv_cons (de_var (pv 0)).v dv_nil)).v (nomark _)))).t (dss_one (ds_ret (di_neg di_int).e)) dss_nil) (dss_cons (ds_if (dw_or (dt_cmp (op_eqD hu) ok_eq (de_var (pv 2)).v di_int.v (nomark _)) (dw_or1 (dt_cmp (op_neD hu) ok_ne (de_slice (de_var (pv 0)).o (dp_some (de_var (pv 1)).i) (dp_some (di_add (de_var (pv 1)).i di_int))).v di_str.v (nomark _)))).t (dss_one (ds_ret (de_var (pv 1)))) dss_nil) (dss_one (ds_set (i := 1) nd rfl (.inl rfl) (di_add (de_var (pv 1)).i di_int).e)))))))))) (dss_one (ds_ret di_int.e)))))
theorem ok_KeptError_init (T : Txt K mg A FD XA) : FnOk P w K mg base (L2.CX P w) 1 (A 14) (FD 14) ["self", "what"] (spKept K "what") := ok_kept (k := 0) rfl T.F_KeptError_init sc_KeptError_init fun cdv Ar outer s H E hr => pss_cons (ps_expr (pe_veinit (by rfl) T.n_ValueError T.vV (pa_cons (pv 0) (pa_cons pe_str pa_nil)))) (pss_one (ps_ost (pv 0) (pv 1)))
theorem ok_read_tuple (T : Txt K mg A FD XA) {k : Nat} {rec : FDen} (G_rec : FnOk P w K mg base (L2.CX P w) k (A 19) (FD 19) ["text", "start", "depth"] (spD ⟨K, P, w, mg⟩ 3 rec)) : FnOk P w K mg base (L2.CX P w) (k + 3) (A 15) (FD 15) ["text", "start", "depth"] (spD ⟨K, P, w, mg⟩ 3 (f_read_tuple rec)) := by
  have G_KeptError_init : FnOk P w K mg base (L2.CX P w) 1 (A 14) (FD 14) ["self", "what"] (spKept K "what") := ok_KeptError_init T
  obtain ⟨dl_KeptError_init_0, dv_KeptError_init_0, hb_KeptError_init_0, hd_KeptError_init_0, hdd_KeptError_init_0, hl_KeptError_init_0⟩ := T.b_KeptError_init_0
  refine fn_okD (N := ["text", "start", "depth", "items", "place", "item", "sign"]) (ps := ["text", "start", "depth"]) (k := k + 2) (den := d_read_tuple rec) T.F_read_tuple sc_read_tuple fun cdv Ar outer s H E hr => ?_
  have nd := sc_read_tuple.nd
  have hu := hr.units
  have hu1 : (Ar.deeper (envOfC "read_tuple" (defScope s_read_tuple) s.heap.objs.size (A 15) cdv)).units + 65 < cLine := by have := hr.un; omega
  have hu2 : (Ar.deeper (envOfC "read_tuple" (defScope s_read_tuple) s.heap.objs.size (A 15) cdv)).units + 1 < cLine := by omega
  have tk : Takes (cxOf (L2.CX P w) P w K mg base ["text", "start", "depth", "items", "place", "item", "sign"] "read_tuple" (defScope s_read_tuple) (A 15) cdv Ar outer s H E) (fun cls d _ H => E cls d H) := takes_of rfl rfl rfl rfl
  have po : PassesOwn (model P w) (Ar.deeper (envOfC "read_tuple" (defScope s_read_tuple) s.heap.objs.size (A 15) cdv)) (cxOf (L2.CX P w) P w K mg base ["text", "start", "depth", "items", "place", "item", "sign"] "read_tuple" (defScope s_read_tuple) (A 15) cdv Ar outer s H E).env (cxOf (L2.CX P w) P w K mg base ["text", "start", "depth", "items", "place", "item", "sign"] "read_tuple" (defScope s_read_tuple) (A 15) cdv Ar outer s H E).xe := passes_of rfl
  exact (dss_cons (ds_if (dt_cmp (op_eqD hu) ok_eq (de_slice (de_var (pv 0)).o (dp_some (de_var (pv 1)).i) (dp_some (di_add (de_var (pv 1)).i di_int))).v di_str.v (nomark _)) (dss_one (ds_ret (di_tup (da_cons (di_tup da_nil) (da_cons (di_add (de_var (pv 1)).i di_int) da_nil))).e)) dss_nil) (dss_cons (ds_set (i := 3) nd rfl (.inl rfl) (de_lst da_nil)) (dss_cons (ds_set (i := 4) nd rfl (.inl rfl) (de_var (pv 1)).i.e) (dss_one (ds_while 1000000 po (dt_tru di_bl.v) (dss_cons (ds_asg (de_call G_rec tk (hr.mono (by omega)) (by rfl) T.f_read_value T.F_read_value.kp T.b_read_value (dar_cons (de_var (pv 0)) (dar_cons (de_var (pv 4)).i.e (dar_cons (de_var (pv 2)) dar_nil)))).i (dg_tup rfl (dgs_cons (dg_name (i := 5) nd rfl (.inl rfl)) (dgs_cons (dg_name (i := 4) nd rfl (.inl rfl)) dgs_nil)))) (dss_cons (ds_app (i := 3) (pv 3) (de_var (pv 5)).i.e (fun h => pe_bm PySem.F.plainAttrs_list PySem.F.slot_list_append PySem.F.type_list_append mt_append (pv 3) h)) (dss_cons (ds_set (i := 6) nd rfl (.inl rfl) (de_slice (de_var (pv 0)).o (dp_some (de_var (pv 4)).i) (dp_some (di_add (de_var (pv 4)).i di_int))).i.e) (dss_cons (ds_if (dt_cmp (op_eqD hu) ok_eq (de_var (pv 6)).v di_str.v (nomark _)) (dss_one (ds_ret (di_tup (da_cons (di_tupV (by rfl) T.n_tuple (by decide +kernel) (de_var (pv 3)).o) (da_cons (di_add (de_var (pv 4)).i di_int) da_nil))).e)) dss_nil) (dss_cons (ds_if (dt_cmp (op_neD hu) ok_ne (de_var (pv 6)).v di_str.v (nomark _)) (dss_one (ds_raise T.ez_BadNotation T.xti G_KeptError_init (hr.mono (by omega)) (db_full T.b_KeptError_init_0) rfl tk (by rfl) (de_var (pv 4)).i)) dss_nil) (dss_one (ds_aug (i := 4) nd rfl (.inl rfl) di_int))))))))))))
theorem ok_number_end (T : Txt K mg A FD XA) : FnOk P w K mg base (L2.CX P w) 1 (A 16) (FD 16) ["text", "start"] (spD ⟨K, P, w, mg⟩ 2 (f_number_end)) := by
  refine fn_okD (N := ["text", "start", "end"]) (ps := ["text", "start"]) (k := 0) (den := d_number_end) T.F_number_end sc_number_end fun cdv Ar outer s H E hr => ?_
  have nd := sc_number_end.nd
  have hu := hr.units
  have hu1 : (Ar.deeper (envOfC "number_end" (defScope s_number_end) s.heap.objs.size (A 16) cdv)).units + 65 < cLine := by have := hr.un; omega
  have hu2 : (Ar.deeper (envOfC "number_end" (defScope s_number_end) s.heap.objs.size (A 16) cdv)).units + 1 < cLine := by omega
  have tk : Takes (cxOf (L2.CX P w) P w K mg base ["text", "start", "end"] "number_end" (defScope s_number_end) (A 16) cdv Ar outer s H E) (fun cls d _ H => E cls d H) := takes_of rfl rfl rfl rfl
  have po : PassesOwn (model P w) (Ar.deeper (envOfC "number_end" (defScope s_number_end) s.heap.objs.size (A 16) cdv)) (cxOf (L2.CX P w) P w K mg base ["text", "start", "end"] "number_end" (defScope s_number_end) (A 16) cdv Ar outer s H E).env (cxOf (L2.CX P w) P w K mg base ["text", "start", "end"] "number_end" (defScope s_number_end) (A 16) cdv Ar outer s H E).xe := passes_of rfl
  exact (dss_cons (ds_if (dt_cmp (op_eqD hu) ok_eq (de_slice (de_var (pv 0)).o (dp_some (de_var (pv 1)).i) (dp_some (di_add (de_var (pv 1)).i di_int))).v di_str.v (nomark _)) (dss_one (ds_ret (di_add (de_var (pv 1)).i di_int).e)) dss_nil) (dss_cons (ds_set (i := 2) nd rfl (.inl rfl) (de_var (pv 1)).i.e) (dss_cons (ds_while 1000000 po (dw_and (dt_cmp op_lt2 ok_lt (de_var (pv 2)).v (di_callBV call_len ok_len (by rfl) T.n_len (by decide +kernel) (dv_cons (de_var (pv 0)).v dv_nil)).v (nomark _)) (dw_and (dt_cmp op_lt2 ok_lt (de_var (pv 2)).v (di_add (de_var (pv 1)).i (di_gI (by rfl) T.g_MOST_DIGITS)).v (nomark _)) (dw_and1 (dt_cmp (op_in3 hu1) ok_in (do_ix (de_var (pv 0)).o (de_var (pv 2)).i).v (di_gS (by rfl) T.g_DIGITS).v (by rfl))))).t (dss_one (ds_aug (i := 2) nd rfl (.inl rfl) di_int))) (dss_one (ds_ret (de_var (pv 2)))))))
theorem ok_read_negative (T : Txt K mg A FD XA) : FnOk P w K mg base (L2.CX P w) 3 (A 17) (FD 17) ["text", "start"] (spD ⟨K, P, w, mg⟩ 2 (f_read_negative)) := by
  have G_number_end : FnOk P w K mg base (L2.CX P w) 1 (A 16) (FD 16) ["text", "start"] (spD ⟨K, P, w, mg⟩ 2 (f_number_end)) := ok_number_end T
  have G_KeptError_init : FnOk P w K mg base (L2.CX P w) 1 (A 14) (FD 14) ["self", "what"] (spKept K "what") := ok_KeptError_init T
  obtain ⟨dl_KeptError_init_0, dv_KeptError_init_0, hb_KeptError_init_0, hd_KeptError_init_0, hdd_KeptError_init_0, hl_KeptError_init_0⟩ := T.b_KeptError_init_0
  obtain ⟨dl_number_end_0, dv_number_end_0, hb_number_end_0, hd_number_end_0, hdd_number_end_0, hl_number_end_0⟩ := db0 T.b_number_end
  refine fn_okD (N := ["text", "start", "end"]) (ps := ["text", "start"]) (k := 2) (den := d_read_negative) T.F_read_negative sc_read_negative fun cdv Ar outer s H E hr => ?_
  have nd := sc_read_negative.nd
  have hu := hr.units
  have hu1 : (Ar.deeper (envOfC "read_negative" (defScope s_read_negative) s.heap.objs.size (A 17) cdv)).units + 65 < cLine := by have := hr.un; omega
  have hu2 : (Ar.deeper (envOfC "read_negative" (defScope s_read_negative) s.heap.objs.size (A 17) cdv)).units + 1 < cLine := by omega
  have tk : Takes (cxOf (L2.CX P w) P w K mg base ["text", "start", "end"] "read_negative" (defScope s_read_negative) (A 17) cdv Ar outer s H E) (fun cls d _ H => E cls d H) := takes_of rfl rfl rfl rfl
  have po : PassesOwn (model P w) (Ar.deeper (envOfC "read_negative" (defScope s_read_negative) s.heap.objs.size (A 17) cdv)) (cxOf (L2.CX P w) P w K mg base ["text", "start", "end"] "read_negative" (defScope s_read_negative) (A 17) cdv Ar outer s H E).env (cxOf (L2.CX P w) P w K mg base ["text", "start", "end"] "read_negative" (defScope s_read_negative) (A 17) cdv Ar outer s H E).xe := passes_of rfl
  exact (dss_cons (ds_set (i := 2) nd rfl (.inl rfl) (de_call G_number_end tk (hr.mono (by decide)) (by rfl) T.f_number_end T.F_number_end.kp T.b_number_end (dar_cons (de_var (pv 0)) (dar_cons (de_var (pv 1)) dar_nil))).i.e) (dss_cons (ds_if (dw_or (dt_cmp (op_eqD hu) ok_eq (de_var (pv 2)).v (de_var (pv 1)).v (nomark _)) (dw_or1 (dt_cmp (op_eqD hu) ok_eq (do_ix (de_var (pv 0)).o (de_var (pv 1)).i).v di_str.v (nomark _)))).t (dss_one (ds_raise T.ez_BadNotation T.xti G_KeptError_init (hr.mono (by decide)) (db_full T.b_KeptError_init_0) rfl tk (by rfl) (de_var (pv 1)).i)) dss_nil) (dss_one (ds_ret (di_tup (da_cons (di_neg (di_callTV call_int_str ok_intS (by rfl) T.n_int (by decide +kernel) (dv_cons (de_slice (de_var (pv 0)).o (dp_some (de_var (pv 1)).i) (dp_some (de_var (pv 2)).i)).v dv_nil))) (da_cons (de_var (pv 2)).i da_nil))).e))))
theorem ok_read_number (T : Txt K mg A FD XA) : FnOk P w K mg base (L2.CX P w) 3 (A 18) (FD 18) ["text", "start"] (spD ⟨K, P, w, mg⟩ 2 (f_read_number)) := by
  have G_number_end : FnOk P w K mg base (L2.CX P w) 1 (A 16) (FD 16) ["text", "start"] (spD ⟨K, P, w, mg⟩ 2 (f_number_end)) := ok_number_end T
  have G_KeptError_init : FnOk P w K mg base (L2.CX P w) 1 (A 14) (FD 14) ["self", "what"] (spKept K "what") := ok_KeptError_init T
  obtain ⟨dl_KeptError_init_0, dv_KeptError_init_0, hb_KeptError_init_0, hd_KeptError_init_0, hdd_KeptError_init_0, hl_KeptError_init_0⟩ := T.b_KeptError_init_0
  obtain ⟨dl_number_end_0, dv_number_end_0, hb_number_end_0, hd_number_end_0, hdd_number_end_0, hl_number_end_0⟩ := db0 T.b_number_end
  refine fn_okD (N := ["text", "start", "end", "number", "stop"]) (ps := ["text", "start"]) (k := 2) (den := d_read_number) T.F_read_number sc_read_number fun cdv Ar outer s H E hr => ?_
  have nd := sc_read_number.nd
  have hu := hr.units
  have hu1 : (Ar.deeper (envOfC "read_number" (defScope s_read_number) s.heap.objs.size (A 18) cdv)).units + 65 < cLine := by have := hr.un; omega
  have hu2 : (Ar.deeper (envOfC "read_number" (defScope s_read_number) s.heap.objs.size (A 18) cdv)).units + 1 < cLine := by omega
  have tk : Takes (cxOf (L2.CX P w) P w K mg base ["text", "start", "end", "number", "stop"] "read_number" (defScope s_read_number) (A 18) cdv Ar outer s H E) (fun cls d _ H => E cls d H) := takes_of rfl rfl rfl rfl
  have po : PassesOwn (model P w) (Ar.deeper (envOfC "read_number" (defScope s_read_number) s.heap.objs.size (A 18) cdv)) (cxOf (L2.CX P w) P w K mg base ["text", "start", "end", "number", "stop"] "read_number" (defScope s_read_number) (A 18) cdv Ar outer s H E).env (cxOf (L2.CX P w) P w K mg base ["text", "start", "end", "number", "stop"] "read_number" (defScope s_read_number) (A 18) cdv Ar outer s H E).xe := passes_of rfl
  exact (dss_cons (ds_set (i := 2) nd rfl (.inl rfl) (de_call G_number_end tk (hr.mono (by decide)) (by rfl) T.f_number_end T.F_number_end.kp T.b_number_end (dar_cons (de_var (pv 0)) (dar_cons (de_var (pv 1)) dar_nil))).i.e) (dss_cons (ds_set (i := 3) nd rfl (.inl rfl) (di_callTV call_int_str ok_intS (by rfl) T.n_int (by decide +kernel) (dv_cons (de_slice (de_var (pv 0)).o (dp_some (de_var (pv 1)).i) (dp_some (de_var (pv 2)).i)).v dv_nil)).e) (dss_cons (ds_if (dw_or (dt_cmp op_gt ok_gt (de_var (pv 3)).v (di_gI (by rfl) T.g_MOST_LENGTH).v (nomark _)) (dw_or1 (dt_cmp (op_neD hu) ok_ne (de_slice (de_var (pv 0)).o (dp_some (de_var (pv 2)).i) (dp_some (di_add (de_var (pv 2)).i di_int))).v di_str.v (nomark _)))).t (dss_one (ds_ret (di_tup (da_cons (de_var (pv 3)).i (da_cons (de_var (pv 2)).i da_nil))).e)) dss_nil) (dss_cons (ds_set (i := 4) nd rfl (.inl rfl) (di_add (di_add (de_var (pv 2)).i di_int) (de_var (pv 3)).i).e) (dss_cons (ds_if (dt_cmp op_gt ok_gt (de_var (pv 4)).v (di_callBV call_len ok_len (by rfl) T.n_len (by decide +kernel) (dv_cons (de_var (pv 0)).v dv_nil)).v (nomark _)) (dss_one (ds_raise T.ez_BadNotation T.xti G_KeptError_init (hr.mono (by decide)) (db_full T.b_KeptError_init_0) rfl tk (by rfl) (di_callBV call_len ok_len (by rfl) T.n_len (by decide +kernel) (dv_cons (de_var (pv 0)).v dv_nil)))) dss_nil) (dss_one (ds_ret (di_tup (da_cons (de_slice (de_var (pv 0)).o (dp_some (di_add (de_var (pv 2)).i di_int)) (dp_some (de_var (pv 4)).i)).i (da_cons (de_var (pv 4)).i da_nil))).e)))))))
theorem ok_read_value (T : Txt K mg A FD XA) : ∀ j : Nat, FnOk P w K mg base (L2.CX P w) (4 + 4 * j) (A 19) (FD 19) ["text", "start", "depth"] (spD ⟨K, P, w, mg⟩ 3 (f_read_value j))
  | 0 => by
    refine fn_okD (N := ["text", "start", "depth", "sign"]) (ps := ["text", "start", "depth"]) (k := 3) (den := (sseq (fun _ => none) (sseq (fun _ => none) (sseq (fun _ => none) (sseq (fun _ => none) (sseq (fun _ => none) (fun _ => none))))))) T.F_read_value sc_read_value fun cdv Ar outer s H E hr => ?_
    exact (dss_cons ds_never (dss_cons ds_never (dss_cons ds_never (dss_cons ds_never (dss_cons ds_never (dss_one ds_never))))))
  | j + 1 => by
    rw [show 4 + 4 * (j + 1) = (4 + 4 * j + 3) + 1 from by omega]
    have G_rec : FnOk P w K mg base (L2.CX P w) (4 + 4 * j) (A 19) (FD 19) ["text", "start", "depth"] (spD ⟨K, P, w, mg⟩ 3 (f_read_value j)) := ok_read_value T j
    have G_read_tuple : FnOk P w K mg base (L2.CX P w) (4 + 4 * j + 3) (A 15) (FD 15) ["text", "start", "depth"] (spD ⟨K, P, w, mg⟩ 3 (f_read_tuple (f_read_value j))) := ok_read_tuple T G_rec
    have G_read_negative : FnOk P w K mg base (L2.CX P w) 3 (A 17) (FD 17) ["text", "start"] (spD ⟨K, P, w, mg⟩ 2 (f_read_negative)) := ok_read_negative T
    have G_read_number : FnOk P w K mg base (L2.CX P w) 3 (A 18) (FD 18) ["text", "start"] (spD ⟨K, P, w, mg⟩ 2 (f_read_number)) := ok_read_number T
    have G_KeptError_init : FnOk P w K mg base (L2.CX P w) 1 (A 14) (FD 14) ["self", "what"] (spKept K "what") := ok_KeptError_init T
    obtain ⟨dl_KeptError_init_0, dv_KeptError_init_0, hb_KeptError_init_0, hd_KeptError_init_0, hdd_KeptError_init_0, hl_KeptError_init_0⟩ := T.b_KeptError_init_0
    obtain ⟨dl_read_negative_0, dv_read_negative_0, hb_read_negative_0, hd_read_negative_0, hdd_read_negative_0, hl_read_negative_0⟩ := db0 T.b_read_negative
    obtain ⟨dl_read_number_0, dv_read_number_0, hb_read_number_0, hd_read_number_0, hdd_read_number_0, hl_read_number_0⟩ := db0 T.b_read_number
    obtain ⟨dl_read_tuple_0, dv_read_tuple_0, hb_read_tuple_0, hd_read_tuple_0, hdd_read_tuple_0, hl_read_tuple_0⟩ := db0 T.b_read_tuple
    refine fn_okD (N := ["text", "start", "depth", "sign"]) (ps := ["text", "start", "depth"]) (k := 4 + 4 * j + 3) (den := d_read_value (f_read_value j)) T.F_read_value sc_read_value fun cdv Ar outer s H E hr => ?_
    have nd := sc_read_value.nd
    have hu := hr.units
    have hu1 : (Ar.deeper (envOfC "read_value" (defScope s_read_value) s.heap.objs.size (A 19) cdv)).units + 65 < cLine := by have := hr.un; omega
    have hu2 : (Ar.deeper (envOfC "read_value" (defScope s_read_value) s.heap.objs.size (A 19) cdv)).units + 1 < cLine := by omega
    have tk : Takes (cxOf (L2.CX P w) P w K mg base ["text", "start", "depth", "sign"] "read_value" (defScope s_read_value) (A 19) cdv Ar outer s H E) (fun cls d _ H => E cls d H) := takes_of rfl rfl rfl rfl
    have po : PassesOwn (model P w) (Ar.deeper (envOfC "read_value" (defScope s_read_value) s.heap.objs.size (A 19) cdv)) (cxOf (L2.CX P w) P w K mg base ["text", "start", "depth", "sign"] "read_value" (defScope s_read_value) (A 19) cdv Ar outer s H E).env (cxOf (L2.CX P w) P w K mg base ["text", "start", "depth", "sign"] "read_value" (defScope s_read_value) (A 19) cdv Ar outer s H E).xe := passes_of rfl
    exact (dss_cons (ds_set (i := 3) nd rfl (.inl rfl) (de_slice (de_var (pv 0)).o (dp_some (de_var (pv 1)).i) (dp_some (di_add (de_var (pv 1)).i di_int))).i.e) (dss_cons (ds_if (dw_or (dt_cmp (op_eqD hu) ok_eq (de_var (pv 3)).v di_str.v (nomark _)) (dw_or1 (dt_cmp (op_eqD hu) ok_eq (de_var (pv 3)).v di_str.v (nomark _)))).t (dss_one (ds_ret (di_tup (da_cons (di_cmp (op_eqD hu) ok_eq (de_var (pv 3)).v di_str.v (nomark _)) (da_cons (di_add (de_var (pv 1)).i di_int) da_nil))).e)) dss_nil) (dss_cons (ds_if (dw_and (dt_cmp (op_eqD hu) ok_eq (de_var (pv 3)).v di_str.v (nomark _)) (dw_and1 (dt_cmp op_lt2 ok_lt (de_var (pv 2)).v (di_gI (by rfl) T.g_MOST_DEPTH).v (nomark _)))).t (dss_one (ds_ret (de_call G_read_tuple tk (hr.mono (by omega)) (by rfl) T.f_read_tuple T.F_read_tuple.kp T.b_read_tuple (dar_cons (de_var (pv 0)) (dar_cons (di_add (de_var (pv 1)).i di_int).e (dar_cons (di_add (de_var (pv 2)).i di_int).e dar_nil)))))) dss_nil) (dss_cons (ds_if (dt_cmp (op_eqD hu) ok_eq (de_var (pv 3)).v di_str.v (nomark _)) (dss_one (ds_ret (de_call G_read_negative tk (hr.mono (by omega)) (by rfl) T.f_read_negative T.F_read_negative.kp T.b_read_negative (dar_cons (de_var (pv 0)) (dar_cons (di_add (de_var (pv 1)).i di_int).e dar_nil))))) dss_nil) (dss_cons (ds_if (dw_and (dt_cmp (op_neD hu) ok_ne (de_var (pv 3)).v di_str.v (nomark _)) (dw_and1 (dt_cmp (op_in3 hu1) ok_in (de_var (pv 3)).v (di_gS (by rfl) T.g_DIGITS).v (by rfl)))).t (dss_one (ds_ret (de_call G_read_number tk (hr.mono (by omega)) (by rfl) T.f_read_number T.F_read_number.kp T.b_read_number (dar_cons (de_var (pv 0)) (dar_cons (de_var (pv 1)) dar_nil))))) dss_nil) (dss_one (ds_raise T.ez_BadNotation T.xti G_KeptError_init (hr.mono (by omega)) (db_full T.b_KeptError_init_0) rfl tk (by rfl) (de_var (pv 1)).i)))))))
theorem ok_read (T : Txt K mg A FD XA) : FnOk P w K mg base (L2.CX P w) 85 (A 20) (FD 20) ["text"] (spD ⟨K, P, w, mg⟩ 1 (f_read)) := by
  have G_read_value : FnOk P w K mg base (L2.CX P w) 84 (A 19) (FD 19) ["text", "start", "depth"] (spD ⟨K, P, w, mg⟩ 3 (f_read_value 20)) := ok_read_value T 20
  have G_KeptError_init : FnOk P w K mg base (L2.CX P w) 1 (A 14) (FD 14) ["self", "what"] (spKept K "what") := ok_KeptError_init T
  obtain ⟨dl_KeptError_init_0, dv_KeptError_init_0, hb_KeptError_init_0, hd_KeptError_init_0, hdd_KeptError_init_0, hl_KeptError_init_0⟩ := T.b_KeptError_init_0
  obtain ⟨dl_read_value_0, dv_read_value_0, hb_read_value_0, hd_read_value_0, hdd_read_value_0, hl_read_value_0⟩ := db0 T.b_read_value
  refine fn_okD (N := ["text", "value", "end"]) (ps := ["text"]) (k := 84) (den := d_read) T.F_read sc_read fun cdv Ar outer s H E hr => ?_
  have nd := sc_read.nd
  have hu := hr.units
  have hu1 : (Ar.deeper (envOfC "read" (defScope s_read) s.heap.objs.size (A 20) cdv)).units + 65 < cLine := by have := hr.un; omega
  have hu2 : (Ar.deeper (envOfC "read" (defScope s_read) s.heap.objs.size (A 20) cdv)).units + 1 < cLine := by omega
  have tk : Takes (cxOf (L2.CX P w) P w K mg base ["text", "value", "end"] "read" (defScope s_read) (A 20) cdv Ar outer s H E) (fun cls d _ H => E cls d H) := takes_of rfl rfl rfl rfl
  have po : PassesOwn (model P w) (Ar.deeper (envOfC "read" (defScope s_read) s.heap.objs.size (A 20) cdv)) (cxOf (L2.CX P w) P w K mg base ["text", "value", "end"] "read" (defScope s_read) (A 20) cdv Ar outer s H E).env (cxOf (L2.CX P w) P w K mg base ["text", "value", "end"] "read" (defScope s_read) (A 20) cdv Ar outer s H E).xe := passes_of rfl
  exact (dss_cons (ds_asg (de_call G_read_value tk (hr.mono (by decide)) (by rfl) T.f_read_value T.F_read_value.kp T.b_read_value (dar_cons (de_var (pv 0)) (dar_cons di_int.e (dar_cons di_int.e dar_nil)))).i (dg_tup rfl (dgs_cons (dg_name (i := 1) nd rfl (.inl rfl)) (dgs_cons (dg_name (i := 2) nd rfl (.inl rfl)) dgs_nil)))) (dss_cons (ds_if (dt_cmp (op_neD hu) ok_ne (de_var (pv 2)).v (di_callBV call_len ok_len (by rfl) T.n_len (by decide +kernel) (dv_cons (de_var (pv 0)).v dv_nil)).v (nomark _)) (dss_one (ds_raise T.ez_BadNotation T.xti G_KeptError_init (hr.mono (by decide)) (db_full T.b_KeptError_init_0) rfl tk (by rfl) (de_var (pv 2)).i)) dss_nil) (dss_one (ds_ret (de_var (pv 1))))))
theorem ok__law_raises_base (T : Txt K mg A FD XA) : FnOk P w K mg base (L2.CX P w) 86 (A 21) (FD 21) ["_law_text_here"] (spD ⟨K, P, w, mg⟩ 1 (f__law_raises_base)) := by
  have G_read : FnOk P w K mg base (L2.CX P w) 85 (A 20) (FD 20) ["text"] (spD ⟨K, P, w, mg⟩ 1 (f_read)) := ok_read T
  obtain ⟨dl_read_0, dv_read_0, hb_read_0, hd_read_0, hdd_read_0, hl_read_0⟩ := db0 T.b_read
  refine fn_okD (N := ["_law_text_here", "e"]) (ps := ["_law_text_here"]) (k := 85) (den := d__law_raises_base) T.F__law_raises_base sc__law_raises_base fun cdv Ar outer s H E hr => ?_
  have nd := sc__law_raises_base.nd
  have hu := hr.units
  have hu1 : (Ar.deeper (envOfC "_law_raises_base" (defScope s__law_raises_base) s.heap.objs.size (A 21) cdv)).units + 65 < cLine := by have := hr.un; omega
  have hu2 : (Ar.deeper (envOfC "_law_raises_base" (defScope s__law_raises_base) s.heap.objs.size (A 21) cdv)).units + 1 < cLine := by omega
  have tk : Takes (cxOf (L2.CX P w) P w K mg base ["_law_text_here", "e"] "_law_raises_base" (defScope s__law_raises_base) (A 21) cdv Ar outer s H E) (fun cls d _ H => E cls d H) := takes_of rfl rfl rfl rfl
  have po : PassesOwn (model P w) (Ar.deeper (envOfC "_law_raises_base" (defScope s__law_raises_base) s.heap.objs.size (A 21) cdv)) (cxOf (L2.CX P w) P w K mg base ["_law_text_here", "e"] "_law_raises_base" (defScope s__law_raises_base) (A 21) cdv Ar outer s H E).env (cxOf (L2.CX P w) P w K mg base ["_law_text_here", "e"] "_law_raises_base" (defScope s__law_raises_base) (A 21) cdv Ar outer s H E).xe := passes_of rfl
  exact (dss_cons (ds_try rfl rfl nd tk (fun W2 pn xe tk po => (dss_one (ds_expr (de_call G_read tk (hr.mono (by decide)) (by rfl) T.f_read T.F_read.kp T.b_read (dar_cons (de_var (pv 0)) dar_nil))))) (HandOk.as (i := 1) rfl rfl ⟨by rfl, by decide, .inl T.xm_RecordError⟩ T.sub_RecordError (fun xa xd oe xc xC d pn hl hm hz hd hf => (dss_cons (ds_if (dw_or (dt_tru (di_xi (vc := .ref (XA 4)) (cv := .ref (XA 4)) hz (hd rfl) hf (T.xis _ (lookup_in hl) _ hm).1 (fun _ r => r) (fun _ hk => T.kit_BadLine _ _ hk _ hm) (by rfl) T.n_isinstance (pv 1) (pe_glob (v := .ref (XA 4)) (by rfl) T.xm_BadLine rfl)).v) (dw_or1 (dt_tru (di_xi (vc := .ref (XA 3)) (cv := .ref (XA 3)) hz (hd rfl) hf (T.xis _ (lookup_in hl) _ hm).1 (fun _ r => r) (fun _ hk => T.kit_BadRecord _ _ hk _ hm) (by rfl) T.n_isinstance (pv 1) (pe_glob (v := .ref (XA 3)) (by rfl) T.xm_BadRecord rfl)).v))).t (dss_one (ds_ret di_bl.e)) dss_nil) (dss_one (ds_ret (di_and (di_xi (vc := .ref (XA 0)) (cv := .ref (XA 0)) hz (hd rfl) hf (T.xis _ (lookup_in hl) _ hm).1 (fun _ r => r) (fun _ hk => T.kit_KeptError _ _ hk _ hm) (by rfl) T.n_isinstance (pv 1) (pe_glob (v := .ref (XA 0)) (by rfl) T.xm_KeptError rfl)) (di_one (di_xi (vc := .ty "ValueError") (cv := .type "ValueError") hz (hd rfl) hf (T.xis _ (lookup_in hl) _ hm).1 (fun _ r => r) (fun _ hk => T.kit_ValueError _ _ hk _ hm) (by rfl) T.n_isinstance (pv 1) (pe_bltn (v := .ty "ValueError") (by rfl) T.n_ValueError (by rfl) rfl)))).e)))) HandOk.nil)) (dss_one (ds_ret di_bl.e)))
theorem ok_law (T : Txt K mg A FD XA) : FnOk P w K mg base (L2.CX P w) 87 (A 22) (FD 22) ["_law_script"] (spD ⟨K, P, w, mg⟩ 1 (f_law)) := by
  have G__law_tape : FnOk P w K mg base (L2.CX P w) 2 (A 2) (FD 2) ["_law_script", "_law_first", "_law_others"] (spD ⟨K, P, w, mg⟩ 3 (f__law_tape)) := ok__law_tape T
  have G__law_drawn_text : FnOk P w K mg base (L2.CX P w) 22 (A 11) (FD 11) ["_law_script", "_law_numbers_here"] (spD ⟨K, P, w, mg⟩ 2 (f__law_drawn_text)) := ok__law_drawn_text T
  have G__law_fault : FnOk P w K mg base (L2.CX P w) 2 (A 13) (FD 13) ["_law_text_here"] (spD ⟨K, P, w, mg⟩ 1 (f__law_fault)) := ok__law_fault T
  have G_read : FnOk P w K mg base (L2.CX P w) 85 (A 20) (FD 20) ["text"] (spD ⟨K, P, w, mg⟩ 1 (f_read)) := ok_read T
  have G__law_written : FnOk P w K mg base (L2.CX P w) 21 (A 4) (FD 4) ["_law_value_here"] (spD ⟨K, P, w, mg⟩ 1 (f__law_written 20)) := ok__law_written T 20
  have G__law_raises_base : FnOk P w K mg base (L2.CX P w) 86 (A 21) (FD 21) ["_law_text_here"] (spD ⟨K, P, w, mg⟩ 1 (f__law_raises_base)) := ok__law_raises_base T
  obtain ⟨dl__law_drawn_text_0, dv__law_drawn_text_0, hb__law_drawn_text_0, hd__law_drawn_text_0, hdd__law_drawn_text_0, hl__law_drawn_text_0⟩ := db0 T.b__law_drawn_text
  obtain ⟨dl__law_fault_0, dv__law_fault_0, hb__law_fault_0, hd__law_fault_0, hdd__law_fault_0, hl__law_fault_0⟩ := db0 T.b__law_fault
  obtain ⟨dl__law_raises_base_0, dv__law_raises_base_0, hb__law_raises_base_0, hd__law_raises_base_0, hdd__law_raises_base_0, hl__law_raises_base_0⟩ := db0 T.b__law_raises_base
  obtain ⟨dl__law_tape_0, dv__law_tape_0, hb__law_tape_0, hd__law_tape_0, hdd__law_tape_0, hl__law_tape_0⟩ := db0 T.b__law_tape
  obtain ⟨dl__law_written_0, dv__law_written_0, hb__law_written_0, hd__law_written_0, hdd__law_written_0, hl__law_written_0⟩ := db0 T.b__law_written
  obtain ⟨dl_read_0, dv_read_0, hb_read_0, hd_read_0, hdd_read_0, hl_read_0⟩ := db0 T.b_read
  refine fn_okD (N := ["_law_script", "_law_numbers_here", "_law_text_here", "_law_fault_here", "_law_place", "_law_value_here", "_law_raised", "e", "_law_good", "_law_back"]) (ps := ["_law_script"]) (k := 86) (den := d_law) T.F_law sc_law fun cdv Ar outer s H E hr => ?_
  have nd := sc_law.nd
  have hu := hr.units
  have hu1 : (Ar.deeper (envOfC "law" (defScope s_law) s.heap.objs.size (A 22) cdv)).units + 65 < cLine := by have := hr.un; omega
  have hu2 : (Ar.deeper (envOfC "law" (defScope s_law) s.heap.objs.size (A 22) cdv)).units + 1 < cLine := by omega
  have tk : Takes (cxOf (L2.CX P w) P w K mg base ["_law_script", "_law_numbers_here", "_law_text_here", "_law_fault_here", "_law_place", "_law_value_here", "_law_raised", "e", "_law_good", "_law_back"] "law" (defScope s_law) (A 22) cdv Ar outer s H E) (fun cls d _ H => E cls d H) := takes_of rfl rfl rfl rfl
  have po : PassesOwn (model P w) (Ar.deeper (envOfC "law" (defScope s_law) s.heap.objs.size (A 22) cdv)) (cxOf (L2.CX P w) P w K mg base ["_law_script", "_law_numbers_here", "_law_text_here", "_law_fault_here", "_law_place", "_law_value_here", "_law_raised", "e", "_law_good", "_law_back"] "law" (defScope s_law) (A 22) cdv Ar outer s H E).env (cxOf (L2.CX P w) P w K mg base ["_law_script", "_law_numbers_here", "_law_text_here", "_law_fault_here", "_law_place", "_law_value_here", "_law_raised", "e", "_law_good", "_law_back"] "law" (defScope s_law) (A 22) cdv Ar outer s H E).xe := passes_of rfl
  exact (dss_cons (ds_set (i := 1) nd rfl (.inl rfl) (de_call G__law_tape tk (hr.mono (by decide)) (by rfl) T.f__law_tape T.F__law_tape.kp T.b__law_tape (dar_cons (de_var (pv 0)) (dar_cons di_int.e (dar_cons di_int.e dar_nil)))).i.e) (dss_cons (ds_set (i := 2) nd rfl (.inl rfl) (de_call G__law_drawn_text tk (hr.mono (by decide)) (by rfl) T.f__law_drawn_text T.F__law_drawn_text.kp T.b__law_drawn_text (dar_cons (de_var (pv 0)) (dar_cons (de_var (pv 1)).i.e dar_nil))).i.e) (dss_cons (ds_set (i := 3) nd rfl (.inl rfl) (de_call G__law_fault tk (hr.mono (by decide)) (by rfl) T.f__law_fault T.F__law_fault.kp T.b__law_fault (dar_cons (de_var (pv 2)).i.e dar_nil)).i.e) (dss_cons (ds_set (i := 4) nd rfl (.inl rfl) di_non.e) (dss_cons (ds_set (i := 5) nd rfl (.inl rfl) di_non.e) (dss_cons (ds_set (i := 6) nd rfl (.inl rfl) di_bl.e) (dss_cons (ds_try rfl rfl nd tk (fun W2 pn xe tk po => (dss_one (ds_set (i := 5) nd rfl (.inl rfl) (de_call G_read tk (hr.mono (by decide)) (by rfl) T.f_read T.F_read.kp T.b_read (dar_cons (de_var (pv 2)).i.e dar_nil)).i.e))) (HandOk.as (i := 7) rfl rfl ⟨by rfl, by decide, .inl T.xm_BadNotation⟩ T.sub_BadNotation (fun xa xd oe xc xC d pn hl hm hz hd hf => (dss_cons (ds_set (i := 6) nd rfl (.inl rfl) di_bl.e) (dss_one (ds_set (i := 4) nd rfl (.inl rfl) (di_xf hz hf (T.xis _ (lookup_in hl) _ hm).1.xf (T.xis _ (lookup_in hl) _ hm).2 (pv 7) (hd rfl)).e)))) HandOk.nil)) (dss_cons (ds_if (dw_and (dt_cmp op_lt2 ok_lt (de_var (pv 3)).v di_int.v (nomark _)) (dw_and1 (dw_or (dt_tru (de_var (pv 6)).v) (dw_or1 (dt_cmp (op_neD hu) ok_ne (de_call G__law_written tk (hr.mono (by decide)) (by rfl) T.f__law_written T.F__law_written.kp T.b__law_written (dar_cons (de_var (pv 5)).i.e dar_nil)).v (de_var (pv 2)).v (nomark _)))).t)).t (dss_one (ds_ret di_bl.e)) dss_nil) (dss_cons (ds_if (dw_and (dt_cmp op_ge ok_ge (de_var (pv 3)).v di_int.v (nomark _)) (dw_and1 (dw_or (dt_not (dt_tru (de_var (pv 6)).v)) (dw_or (dt_not (dt_tru (di_callBV call_isi ok_isi (by rfl) T.n_isinstance (by decide +kernel) (dv_cons (de_var (pv 4)).v (dv_cons (di_ty (by rfl) T.n_int (by decide +kernel)).v dv_nil))).v)) (dw_or (dt_tru (di_callBV call_isi ok_isi (by rfl) T.n_isinstance (by decide +kernel) (dv_cons (de_var (pv 4)).v (dv_cons (di_ty (by rfl) T.n_bool (by decide +kernel)).v dv_nil))).v) (dw_or1 (dt_cmp (op_neD hu) ok_ne (de_var (pv 4)).v (de_var (pv 3)).v (nomark _)))))).t)).t (dss_one (ds_ret di_bl.e)) dss_nil) (dss_cons (ds_if (dw_and (dt_cmp op_ge ok_ge (de_var (pv 3)).v di_int.v (nomark _)) (dw_and1 (dt_not (dt_tru (de_call G__law_raises_base tk (hr.mono (by decide)) (by rfl) T.f__law_raises_base T.F__law_raises_base.kp T.b__law_raises_base (dar_cons (de_var (pv 2)).i.e dar_nil)).v)))).t (dss_one (ds_ret di_bl.e)) dss_nil) (dss_cons (ds_set (i := 8) nd rfl (.inl rfl) (di_add (di_add (di_add (di_add di_str (di_callTV call_str_int ok_str (by rfl) T.n_str (by decide +kernel) (dv_cons (di_callBV call_len ok_len (by rfl) T.n_len (by decide +kernel) (dv_cons (de_var (pv 2)).v dv_nil)).v dv_nil))) di_str) (de_var (pv 2)).i) di_str).e) (dss_cons (ds_if (dt_cmp op_gt ok_gt (di_callBV call_len ok_len (by rfl) T.n_len (by decide +kernel) (dv_cons (de_var (pv 2)).v dv_nil)).v di_int.v (nomark _)) (dss_one (ds_set (i := 8) nd rfl (.inl rfl) di_str.e)) dss_nil) (dss_cons (ds_set (i := 9) nd rfl (.inl rfl) (de_call G_read tk (hr.mono (by decide)) (by rfl) T.f_read T.F_read.kp T.b_read (dar_cons (de_var (pv 8)).i.e dar_nil)).i.e) (dss_one (ds_ret (di_and (di_callBV call_isi ok_isi (by rfl) T.n_isinstance (by decide +kernel) (dv_cons (de_var (pv 9)).v (dv_cons (di_ty (by rfl) T.n_tuple (by decide +kernel)).v dv_nil))) (di_one (di_cmp (op_eqD hu) ok_eq (de_call G__law_written tk (hr.mono (by decide)) (by rfl) T.f__law_written T.F__law_written.kp T.b__law_written (dar_cons (de_var (pv 9)).i.e dar_nil)).v (de_var (pv 8)).v (nomark _)))).e)))))))))))))))
end
theorem all_mk {l : PySem.W.OpenLaw} {w : World} {K : PySem.W.Frag} {h : Heap} {mg : Str → Option Value} {fa : Addr} (X : K.In h) (G : h.Ns mainGlobals mg) (hfa : mg "law" = some (.ref fa))
    {x0 : Addr}
    {x1 : Addr}
    {x2 : Addr}
    {x3 : Addr}
    {x4 : Addr}
    {xn2 xq2 : Str} {xN2 : Addr} {xb2 : List Value} {xs2 : List Str} {xu2 : List Value} {xa2 : Bool} {xc2 : Option Bool} {xd2 : Option Addr} {y02 y12 y22 y32 y52 : Option Value}
    {a0 : Addr} {od0 an0 : Option Addr} {sl0 : Array (Option Value)} {oc0 kV0 dc0 pm0 cd0 ct0 : Value}
    {a1 : Addr} {od1 an1 : Option Addr} {sl1 : Array (Option Value)} {oc1 kV1 dc1 pm1 cd1 ct1 : Value}
    {a2 : Addr} {od2 an2 : Option Addr} {sl2 : Array (Option Value)} {oc2 kV2 dc2 pm2 cd2 ct2 : Value}
    {a3 : Addr} {od3 an3 : Option Addr} {sl3 : Array (Option Value)} {oc3 kV3 dc3 pm3 cd3 ct3 : Value}
    {a4 : Addr} {od4 an4 : Option Addr} {sl4 : Array (Option Value)} {oc4 kV4 dc4 pm4 cd4 ct4 : Value}
    {a5 : Addr} {od5 an5 : Option Addr} {sl5 : Array (Option Value)} {oc5 kV5 dc5 pm5 cd5 ct5 : Value}
    {a6 : Addr} {od6 an6 : Option Addr} {sl6 : Array (Option Value)} {oc6 kV6 dc6 pm6 cd6 ct6 : Value}
    {a7 : Addr} {od7 an7 : Option Addr} {sl7 : Array (Option Value)} {oc7 kV7 dc7 pm7 cd7 ct7 : Value}
    {a8 : Addr} {od8 an8 : Option Addr} {sl8 : Array (Option Value)} {oc8 kV8 dc8 pm8 cd8 ct8 : Value}
    {a9 : Addr} {od9 an9 : Option Addr} {sl9 : Array (Option Value)} {oc9 kV9 dc9 pm9 cd9 ct9 : Value}
    {a10 : Addr} {od10 an10 : Option Addr} {sl10 : Array (Option Value)} {oc10 kV10 dc10 pm10 cd10 ct10 : Value}
    {a11 : Addr} {od11 an11 : Option Addr} {sl11 : Array (Option Value)} {oc11 kV11 dc11 pm11 cd11 ct11 : Value}
    {a12 : Addr} {od12 an12 : Option Addr} {sl12 : Array (Option Value)} {oc12 kV12 dc12 pm12 cd12 ct12 : Value}
    {a13 : Addr} {od13 an13 : Option Addr} {sl13 : Array (Option Value)} {oc13 kV13 dc13 pm13 cd13 ct13 : Value}
    {a14 : Addr} {od14 an14 : Option Addr} {sl14 : Array (Option Value)} {oc14 kV14 dc14 pm14 cd14 ct14 : Value}
    {dT14 : Addr} {dTo14 : Option Addr} {dTc14 : Value} {dTn14 : Nat} {dTs14 : Array (Option Value)}
    {a15 : Addr} {od15 an15 : Option Addr} {sl15 : Array (Option Value)} {oc15 kV15 dc15 pm15 cd15 ct15 : Value}
    {a16 : Addr} {od16 an16 : Option Addr} {sl16 : Array (Option Value)} {oc16 kV16 dc16 pm16 cd16 ct16 : Value}
    {a17 : Addr} {od17 an17 : Option Addr} {sl17 : Array (Option Value)} {oc17 kV17 dc17 pm17 cd17 ct17 : Value}
    {a18 : Addr} {od18 an18 : Option Addr} {sl18 : Array (Option Value)} {oc18 kV18 dc18 pm18 cd18 ct18 : Value}
    {a19 : Addr} {od19 an19 : Option Addr} {sl19 : Array (Option Value)} {oc19 kV19 dc19 pm19 cd19 ct19 : Value}
    {a20 : Addr} {od20 an20 : Option Addr} {sl20 : Array (Option Value)} {oc20 kV20 dc20 pm20 cd20 ct20 : Value}
    {a21 : Addr} {od21 an21 : Option Addr} {sl21 : Array (Option Value)} {oc21 kV21 dc21 pm21 cd21 ct21 : Value}
    {a22 : Addr} {od22 an22 : Option Addr} {sl22 : Array (Option Value)} {oc22 kV22 dc22 pm22 cd22 ct22 : Value}
    {tk30 : Tok}
    {tk31 : Tok}
    {tk32 : Tok}
    {tk33 : Tok}
    (h0 : PySem.W.nsIn K mainGlobals "KeptError" = some (some (.ref x0)))
    (h1 : PySem.W.nsIn K mainGlobals "RecordError" = some (some (.ref x1)))
    (h2 : PySem.W.nsIn K mainGlobals "BadNotation" = some (some (.ref x2)))
    (h3 : PySem.W.nsIn K mainGlobals "BadRecord" = some (some (.ref x3)))
    (h4 : PySem.W.nsIn K mainGlobals "BadLine" = some (some (.ref x4)))
    (h5 : K.lookup x2 = some (excClassObj xn2 xq2 x2 xN2 xb2 [.ref x1, .ref x0, .type "ValueError", .type "Exception", .type "BaseException", .type "object"] true xs2 xu2 xa2 xc2 xd2 y02 y12 y22 y32 y52 "ValueError.__new__"))
    (h6 : PySem.W.findIn K (.ref x2) "__setattr__" = some (some (.builtin "object.__setattr__")))
    (h7 : PySem.W.findIn K (.ref x2) "what" = some none)
    (h8 : PySem.W.findIn K (.ref x2) "__init__" = some (some (.ref a14)))
    (h9 : PySem.W.keepIn K (.ref x2) = true)
    (h10 : PySem.W.subIn K (.ref x2) (.type "BaseException") = some true)
    (h11 : PySem.W.isClsIn K x2 = true)
    (h12 : PySem.W.typeIn K (.ref x2) = some (.type "type"))
    (h13 : PySem.W.findIn K (.ref x2) "__getattribute__" = some (some (.builtin "BaseException.__getattribute__")))
    (h14 : PySem.W.findIn K (.ref x2) "__getattr__" = some none)
    (h15 : PySem.W.hasDictIn K x2 = true)
    (h16 : PySem.W.findIn K (.ref x2) "__class__" = some (some (.builtin "object.__class__")))
    (h17 : PySem.W.specialIn K (.builtin "object.__class__") "__get__" = some (some (.builtin "getset_descriptor.__get__")))
    (h18 : PySem.W.takesIn K (.builtin "object.__class__") = some true)
    (h19 : PySem.W.mroIn K x2 (.type "object") = some true)
    (h20 : PySem.W.subIn K (.ref x2) (.ref x2) = some true)
    (h21 : PySem.W.subIn K (.ref x1) (.type "BaseException") = some true)
    (h22 : PySem.W.isClsIn K x1 = true)
    (h23 : PySem.W.typeIn K (.ref x1) = some (.type "type"))
    (h24 : PySem.W.subIn K (.ref x2) (.ref x1) = some true)
    (h25 : PySem.W.kitOne K (.ref x2) (.ref x4) = some false)
    (h26 : PySem.W.kitOne K (.ref x2) (.ref x3) = some false)
    (h27 : PySem.W.kitOne K (.ref x2) (.ref x0) = some true)
    (h28 : PySem.W.kitOne K (.ref x2) (.type "ValueError") = some true)
    (h29 : PySem.W.nsIn K mainGlobals "_law_numbers" = some (some (.ref a0)))
    (h30 : K.lookup a0 = some ⟨oc0, od0, .func (PySem.W.fnOf "_law_numbers" "_law_numbers" (defArgs s__law_numbers) (defBody s__law_numbers) (defScope s__law_numbers) .none kV0 dc0 pm0 an0 cd0 ct0), sl0⟩)
    (h31 : PySem.W.codeIn K cd0 "_law_numbers" = true)
    (h32 : PySem.W.keepIn K (.ref a0) = true)
    (h33 : PySem.W.nsIn K mainGlobals "_law_cell" = some (some (.ref a1)))
    (h34 : K.lookup a1 = some ⟨oc1, od1, .func (PySem.W.fnOf "_law_cell" "_law_cell" (defArgs s__law_cell) (defBody s__law_cell) (defScope s__law_cell) .none kV1 dc1 pm1 an1 cd1 ct1), sl1⟩)
    (h35 : PySem.W.codeIn K cd1 "_law_cell" = true)
    (h36 : PySem.W.keepIn K (.ref a1) = true)
    (h37 : PySem.W.nsIn K mainGlobals "_law_tape" = some (some (.ref a2)))
    (h38 : K.lookup a2 = some ⟨oc2, od2, .func (PySem.W.fnOf "_law_tape" "_law_tape" (defArgs s__law_tape) (defBody s__law_tape) (defScope s__law_tape) .none kV2 dc2 pm2 an2 cd2 ct2), sl2⟩)
    (h39 : PySem.W.codeIn K cd2 "_law_tape" = true)
    (h40 : PySem.W.keepIn K (.ref a2) = true)
    (h41 : PySem.W.nsIn K mainGlobals "_law_odd" = some (some (.ref a3)))
    (h42 : K.lookup a3 = some ⟨oc3, od3, .func (PySem.W.fnOf "_law_odd" "_law_odd" (defArgs s__law_odd) (defBody s__law_odd) (defScope s__law_odd) .none kV3 dc3 pm3 an3 cd3 ct3), sl3⟩)
    (h43 : PySem.W.codeIn K cd3 "_law_odd" = true)
    (h44 : PySem.W.keepIn K (.ref a3) = true)
    (h45 : PySem.W.nsIn K mainGlobals "_law_written" = some (some (.ref a4)))
    (h46 : K.lookup a4 = some ⟨oc4, od4, .func (PySem.W.fnOf "_law_written" "_law_written" (defArgs s__law_written) (defBody s__law_written) (defScope s__law_written) .none kV4 dc4 pm4 an4 cd4 ct4), sl4⟩)
    (h47 : PySem.W.codeIn K cd4 "_law_written" = true)
    (h48 : PySem.W.keepIn K (.ref a4) = true)
    (h49 : PySem.W.nsIn K mainGlobals "_law_integer" = some (some (.ref a5)))
    (h50 : K.lookup a5 = some ⟨oc5, od5, .func (PySem.W.fnOf "_law_integer" "_law_integer" (defArgs s__law_integer) (defBody s__law_integer) (defScope s__law_integer) .none kV5 dc5 pm5 an5 cd5 ct5), sl5⟩)
    (h51 : PySem.W.codeIn K cd5 "_law_integer" = true)
    (h52 : PySem.W.keepIn K (.ref a5) = true)
    (h53 : PySem.W.nsIn K mainGlobals "_law_char" = some (some (.ref a6)))
    (h54 : K.lookup a6 = some ⟨oc6, od6, .func (PySem.W.fnOf "_law_char" "_law_char" (defArgs s__law_char) (defBody s__law_char) (defScope s__law_char) .none kV6 dc6 pm6 an6 cd6 ct6), sl6⟩)
    (h55 : PySem.W.codeIn K cd6 "_law_char" = true)
    (h56 : PySem.W.keepIn K (.ref a6) = true)
    (h57 : PySem.W.nsIn K mainGlobals "_law_text" = some (some (.ref a7)))
    (h58 : K.lookup a7 = some ⟨oc7, od7, .func (PySem.W.fnOf "_law_text" "_law_text" (defArgs s__law_text) (defBody s__law_text) (defScope s__law_text) .none kV7 dc7 pm7 an7 cd7 ct7), sl7⟩)
    (h59 : PySem.W.codeIn K cd7 "_law_text" = true)
    (h60 : PySem.W.keepIn K (.ref a7) = true)
    (h61 : PySem.W.nsIn K mainGlobals "_law_leaf" = some (some (.ref a8)))
    (h62 : K.lookup a8 = some ⟨oc8, od8, .func (PySem.W.fnOf "_law_leaf" "_law_leaf" (defArgs s__law_leaf) (defBody s__law_leaf) (defScope s__law_leaf) .none kV8 dc8 pm8 an8 cd8 ct8), sl8⟩)
    (h63 : PySem.W.codeIn K cd8 "_law_leaf" = true)
    (h64 : PySem.W.keepIn K (.ref a8) = true)
    (h65 : PySem.W.nsIn K mainGlobals "_law_value" = some (some (.ref a9)))
    (h66 : K.lookup a9 = some ⟨oc9, od9, .func (PySem.W.fnOf "_law_value" "_law_value" (defArgs s__law_value) (defBody s__law_value) (defScope s__law_value) .none kV9 dc9 pm9 an9 cd9 ct9), sl9⟩)
    (h67 : PySem.W.codeIn K cd9 "_law_value" = true)
    (h68 : PySem.W.keepIn K (.ref a9) = true)
    (h69 : PySem.W.nsIn K mainGlobals "_law_spoilt" = some (some (.ref a10)))
    (h70 : K.lookup a10 = some ⟨oc10, od10, .func (PySem.W.fnOf "_law_spoilt" "_law_spoilt" (defArgs s__law_spoilt) (defBody s__law_spoilt) (defScope s__law_spoilt) .none kV10 dc10 pm10 an10 cd10 ct10), sl10⟩)
    (h71 : PySem.W.codeIn K cd10 "_law_spoilt" = true)
    (h72 : PySem.W.keepIn K (.ref a10) = true)
    (h73 : PySem.W.nsIn K mainGlobals "_law_drawn_text" = some (some (.ref a11)))
    (h74 : K.lookup a11 = some ⟨oc11, od11, .func (PySem.W.fnOf "_law_drawn_text" "_law_drawn_text" (defArgs s__law_drawn_text) (defBody s__law_drawn_text) (defScope s__law_drawn_text) .none kV11 dc11 pm11 an11 cd11 ct11), sl11⟩)
    (h75 : PySem.W.codeIn K cd11 "_law_drawn_text" = true)
    (h76 : PySem.W.keepIn K (.ref a11) = true)
    (h77 : PySem.W.nsIn K mainGlobals "_law_atom_end" = some (some (.ref a12)))
    (h78 : K.lookup a12 = some ⟨oc12, od12, .func (PySem.W.fnOf "_law_atom_end" "_law_atom_end" (defArgs s__law_atom_end) (defBody s__law_atom_end) (defScope s__law_atom_end) .none kV12 dc12 pm12 an12 cd12 ct12), sl12⟩)
    (h79 : PySem.W.codeIn K cd12 "_law_atom_end" = true)
    (h80 : PySem.W.keepIn K (.ref a12) = true)
    (h81 : PySem.W.nsIn K mainGlobals "_law_fault" = some (some (.ref a13)))
    (h82 : K.lookup a13 = some ⟨oc13, od13, .func (PySem.W.fnOf "_law_fault" "_law_fault" (defArgs s__law_fault) (defBody s__law_fault) (defScope s__law_fault) .none kV13 dc13 pm13 an13 cd13 ct13), sl13⟩)
    (h83 : PySem.W.codeIn K cd13 "_law_fault" = true)
    (h84 : PySem.W.keepIn K (.ref a13) = true)
    (h85 : PySem.W.typeIn K (.ref a14) = some (.type "function"))
    (h86 : PySem.W.findCls K (.type "ValueError") (.type "type") "__init__" = some (.val (.builtin "ValueError.__init__")))
    (h87 : K.lookup a14 = some ⟨oc14, od14, .func (PySem.W.fnOf "__init__" "KeptError.__init__" (defArgs s_KeptError_init) (defBody s_KeptError_init) (defScope s_KeptError_init) (.ref dT14) kV14 dc14 pm14 an14 cd14 ct14), sl14⟩)
    (h88 : PySem.W.codeIn K cd14 "KeptError.__init__" = true)
    (h89 : PySem.W.keepIn K (.ref a14) = true)
    (h90 : K.lookup dT14 = some ⟨dTc14, dTo14, .seq (#[.none] : Array Value) dTn14, dTs14⟩)
    (h91 : PySem.W.nsIn K mainGlobals "read_tuple" = some (some (.ref a15)))
    (h92 : K.lookup a15 = some ⟨oc15, od15, .func (PySem.W.fnOf "read_tuple" "read_tuple" (defArgs s_read_tuple) (defBody s_read_tuple) (defScope s_read_tuple) .none kV15 dc15 pm15 an15 cd15 ct15), sl15⟩)
    (h93 : PySem.W.codeIn K cd15 "read_tuple" = true)
    (h94 : PySem.W.keepIn K (.ref a15) = true)
    (h95 : PySem.W.nsIn K mainGlobals "number_end" = some (some (.ref a16)))
    (h96 : K.lookup a16 = some ⟨oc16, od16, .func (PySem.W.fnOf "number_end" "number_end" (defArgs s_number_end) (defBody s_number_end) (defScope s_number_end) .none kV16 dc16 pm16 an16 cd16 ct16), sl16⟩)
    (h97 : PySem.W.codeIn K cd16 "number_end" = true)
    (h98 : PySem.W.keepIn K (.ref a16) = true)
    (h99 : PySem.W.nsIn K mainGlobals "read_negative" = some (some (.ref a17)))
    (h100 : K.lookup a17 = some ⟨oc17, od17, .func (PySem.W.fnOf "read_negative" "read_negative" (defArgs s_read_negative) (defBody s_read_negative) (defScope s_read_negative) .none kV17 dc17 pm17 an17 cd17 ct17), sl17⟩)
    (h101 : PySem.W.codeIn K cd17 "read_negative" = true)
    (h102 : PySem.W.keepIn K (.ref a17) = true)
    (h103 : PySem.W.nsIn K mainGlobals "read_number" = some (some (.ref a18)))
    (h104 : K.lookup a18 = some ⟨oc18, od18, .func (PySem.W.fnOf "read_number" "read_number" (defArgs s_read_number) (defBody s_read_number) (defScope s_read_number) .none kV18 dc18 pm18 an18 cd18 ct18), sl18⟩)
    (h105 : PySem.W.codeIn K cd18 "read_number" = true)
    (h106 : PySem.W.keepIn K (.ref a18) = true)
    (h107 : PySem.W.nsIn K mainGlobals "read_value" = some (some (.ref a19)))
    (h108 : K.lookup a19 = some ⟨oc19, od19, .func (PySem.W.fnOf "read_value" "read_value" (defArgs s_read_value) (defBody s_read_value) (defScope s_read_value) .none kV19 dc19 pm19 an19 cd19 ct19), sl19⟩)
    (h109 : PySem.W.codeIn K cd19 "read_value" = true)
    (h110 : PySem.W.keepIn K (.ref a19) = true)
    (h111 : PySem.W.nsIn K mainGlobals "read" = some (some (.ref a20)))
    (h112 : K.lookup a20 = some ⟨oc20, od20, .func (PySem.W.fnOf "read" "read" (defArgs s_read) (defBody s_read) (defScope s_read) .none kV20 dc20 pm20 an20 cd20 ct20), sl20⟩)
    (h113 : PySem.W.codeIn K cd20 "read" = true)
    (h114 : PySem.W.keepIn K (.ref a20) = true)
    (h115 : PySem.W.nsIn K mainGlobals "_law_raises_base" = some (some (.ref a21)))
    (h116 : K.lookup a21 = some ⟨oc21, od21, .func (PySem.W.fnOf "_law_raises_base" "_law_raises_base" (defArgs s__law_raises_base) (defBody s__law_raises_base) (defScope s__law_raises_base) .none kV21 dc21 pm21 an21 cd21 ct21), sl21⟩)
    (h117 : PySem.W.codeIn K cd21 "_law_raises_base" = true)
    (h118 : PySem.W.keepIn K (.ref a21) = true)
    (h119 : PySem.W.nsIn K mainGlobals "law" = some (some (.ref a22)))
    (h120 : K.lookup a22 = some ⟨oc22, od22, .func (PySem.W.fnOf "law" "law" (defArgs s_law) (defBody s_law) (defScope s_law) .none kV22 dc22 pm22 an22 cd22 ct22), sl22⟩)
    (h121 : PySem.W.codeIn K cd22 "law" = true)
    (h122 : PySem.W.keepIn K (.ref a22) = true)
    (h123 : PySem.W.nsIn K mainGlobals "DIGITS" = some (some (.str "0123456789" tk30)))
    (h124 : PySem.W.nsIn K mainGlobals "MOST_DEPTH" = some (some (.int 12 tk31)))
    (h125 : PySem.W.nsIn K mainGlobals "MOST_DIGITS" = some (some (.int 60 tk32)))
    (h126 : PySem.W.nsIn K mainGlobals "MOST_LENGTH" = some (some (.int 1000 tk33)))
    (h127 : PySem.W.nsIn K mainGlobals "ValueError" = some none)
    (h128 : PySem.W.nsIn K mainGlobals "abs" = some none)
    (h129 : PySem.W.nsIn K mainGlobals "bool" = some none)
    (h130 : PySem.W.nsIn K mainGlobals "int" = some none)
    (h131 : PySem.W.nsIn K mainGlobals "isinstance" = some none)
    (h132 : PySem.W.nsIn K mainGlobals "len" = some none)
    (h133 : PySem.W.nsIn K mainGlobals "max" = some none)
    (h134 : PySem.W.nsIn K mainGlobals "min" = some none)
    (h135 : PySem.W.nsIn K mainGlobals "range" = some none)
    (h136 : PySem.W.nsIn K mainGlobals "str" = some none)
    (h137 : PySem.W.nsIn K mainGlobals "tuple" = some none)
    : ∃ (fd : FuncData) (A : Unit), True ∧ (∀ (s : Shared) (v : Value), BindsTo s fd ⟨[v], []⟩ [("_law_script", v)]) ∧ ∀ base : Heap, K.In base → base.Ns mainGlobals mg → FnOk l.prog w K mg base (L2.CX l.prog w) 87 fa fd ["_law_script"] (spD ⟨K, l.prog, w, mg⟩ 1 (fA A)) := by
  have e := hfa.symm.trans (PySem.W.mg_of X G h119)
  cases e
  have T : Txt K mg (fun n => (cond (Nat.ble n 10) (cond (Nat.ble n 4) (cond (Nat.ble n 1) (cond (Nat.ble n 0) a0 a1) (cond (Nat.ble n 2) a2 (cond (Nat.ble n 3) a3 a4))) (cond (Nat.ble n 7) (cond (Nat.ble n 5) a5 (cond (Nat.ble n 6) a6 a7)) (cond (Nat.ble n 8) a8 (cond (Nat.ble n 9) a9 a10)))) (cond (Nat.ble n 16) (cond (Nat.ble n 13) (cond (Nat.ble n 11) a11 (cond (Nat.ble n 12) a12 a13)) (cond (Nat.ble n 14) a14 (cond (Nat.ble n 15) a15 a16))) (cond (Nat.ble n 19) (cond (Nat.ble n 17) a17 (cond (Nat.ble n 18) a18 a19)) (cond (Nat.ble n 20) a20 (cond (Nat.ble n 21) a21 fa)))))) (fun n => (cond (Nat.ble n 10) (cond (Nat.ble n 4) (cond (Nat.ble n 1) (cond (Nat.ble n 0) (PySem.W.fnOf "_law_numbers" "_law_numbers" (defArgs s__law_numbers) (defBody s__law_numbers) (defScope s__law_numbers) .none kV0 dc0 pm0 an0 cd0 ct0) (PySem.W.fnOf "_law_cell" "_law_cell" (defArgs s__law_cell) (defBody s__law_cell) (defScope s__law_cell) .none kV1 dc1 pm1 an1 cd1 ct1)) (cond (Nat.ble n 2) (PySem.W.fnOf "_law_tape" "_law_tape" (defArgs s__law_tape) (defBody s__law_tape) (defScope s__law_tape) .none kV2 dc2 pm2 an2 cd2 ct2) (cond (Nat.ble n 3) (PySem.W.fnOf "_law_odd" "_law_odd" (defArgs s__law_odd) (defBody s__law_odd) (defScope s__law_odd) .none kV3 dc3 pm3 an3 cd3 ct3) (PySem.W.fnOf "_law_written" "_law_written" (defArgs s__law_written) (defBody s__law_written) (defScope s__law_written) .none kV4 dc4 pm4 an4 cd4 ct4)))) (cond (Nat.ble n 7) (cond (Nat.ble n 5) (PySem.W.fnOf "_law_integer" "_law_integer" (defArgs s__law_integer) (defBody s__law_integer) (defScope s__law_integer) .none kV5 dc5 pm5 an5 cd5 ct5) (cond (Nat.ble n 6) (PySem.W.fnOf "_law_char" "_law_char" (defArgs s__law_char) (defBody s__law_char) (defScope s__law_char) .none kV6 dc6 pm6 an6 cd6 ct6) (PySem.W.fnOf "_law_text" "_law_text" (defArgs s__law_text) (defBody s__law_text) (defScope s__law_text) .none kV7 dc7 pm7 an7 cd7 ct7))) (cond (Nat.ble n 8) (PySem.W.fnOf "_law_leaf" "_law_leaf" (defArgs s__law_leaf) (defBody s__law_leaf) (defScope s__law_leaf) .none kV8 dc8 pm8 an8 cd8 ct8) (cond (Nat.ble n 9) (PySem.W.fnOf "_law_value" "_law_value" (defArgs s__law_value) (defBody s__law_value) (defScope s__law_value) .none kV9 dc9 pm9 an9 cd9 ct9) (PySem.W.fnOf "_law_spoilt" "_law_spoilt" (defArgs s__law_spoilt) (defBody s__law_spoilt) (defScope s__law_spoilt) .none kV10 dc10 pm10 an10 cd10 ct10))))) (cond (Nat.ble n 16) (cond (Nat.ble n 13) (cond (Nat.ble n 11) (PySem.W.fnOf "_law_drawn_text" "_law_drawn_text" (defArgs s__law_drawn_text) (defBody s__law_drawn_text) (defScope s__law_drawn_text) .none kV11 dc11 pm11 an11 cd11 ct11) (cond (Nat.ble n 12) (PySem.W.fnOf "_law_atom_end" "_law_atom_end" (defArgs s__law_atom_end) (defBody s__law_atom_end) (defScope s__law_atom_end) .none kV12 dc12 pm12 an12 cd12 ct12) (PySem.W.fnOf "_law_fault" "_law_fault" (defArgs s__law_fault) (defBody s__law_fault) (defScope s__law_fault) .none kV13 dc13 pm13 an13 cd13 ct13))) (cond (Nat.ble n 14) (PySem.W.fnOf "__init__" "KeptError.__init__" (defArgs s_KeptError_init) (defBody s_KeptError_init) (defScope s_KeptError_init) (.ref dT14) kV14 dc14 pm14 an14 cd14 ct14) (cond (Nat.ble n 15) (PySem.W.fnOf "read_tuple" "read_tuple" (defArgs s_read_tuple) (defBody s_read_tuple) (defScope s_read_tuple) .none kV15 dc15 pm15 an15 cd15 ct15) (PySem.W.fnOf "number_end" "number_end" (defArgs s_number_end) (defBody s_number_end) (defScope s_number_end) .none kV16 dc16 pm16 an16 cd16 ct16)))) (cond (Nat.ble n 19) (cond (Nat.ble n 17) (PySem.W.fnOf "read_negative" "read_negative" (defArgs s_read_negative) (defBody s_read_negative) (defScope s_read_negative) .none kV17 dc17 pm17 an17 cd17 ct17) (cond (Nat.ble n 18) (PySem.W.fnOf "read_number" "read_number" (defArgs s_read_number) (defBody s_read_number) (defScope s_read_number) .none kV18 dc18 pm18 an18 cd18 ct18) (PySem.W.fnOf "read_value" "read_value" (defArgs s_read_value) (defBody s_read_value) (defScope s_read_value) .none kV19 dc19 pm19 an19 cd19 ct19))) (cond (Nat.ble n 20) (PySem.W.fnOf "read" "read" (defArgs s_read) (defBody s_read) (defScope s_read) .none kV20 dc20 pm20 an20 cd20 ct20) (cond (Nat.ble n 21) (PySem.W.fnOf "_law_raises_base" "_law_raises_base" (defArgs s__law_raises_base) (defBody s__law_raises_base) (defScope s__law_raises_base) .none kV21 dc21 pm21 an21 cd21 ct21) (PySem.W.fnOf "law" "law" (defArgs s_law) (defBody s_law) (defScope s_law) .none kV22 dc22 pm22 an22 cd22 ct22))))))) (fun n => match n with | 0 => x0 | 1 => x1 | 2 => x2 | 3 => x3 | 4 => x4 | _ => 0) := by
    refine ⟨?_, ?_, ?_, ?_, ?_, ?_, ?_, ?_, ?_, ?_, ?_, ?_, ?_, ?_, ?_, ?_, ?_, ?_, ?_, ?_, ?_, ?_, ?_, ?_, ?_, ?_, ?_, ?_, ?_, ?_, ?_, ?_, ?_, ?_, ?_, ?_, ?_, ?_, ?_, ?_, ?_, ?_, ?_, ?_, ?_, ?_, ?_, ?_, ?_, ?_, ?_, ?_, ?_, ?_, ?_, ?_, ?_, ?_, ?_, ?_, ?_, ?_, ?_, ?_, ?_, ?_, ?_, ?_, ?_, ?_, ?_, ?_, ?_, ?_, ?_, ?_, ?_, ?_, ?_, ?_, ?_, ?_, ?_, ?_, ?_, ?_, ?_, ?_, ?_, ?_, ?_, ?_, ?_, ?_, ?_, ?_⟩
    · exact PySem.W.mg_of X G h0
    · exact PySem.W.mg_of X G h1
    · exact PySem.W.mg_of X G h2
    · exact PySem.W.mg_of X G h3
    · exact PySem.W.mg_of X G h4
    · exact ⟨PySem.W.mg_of X G h2, ⟨⟨_, _, _, _, _, _, _, _, _, _, _, _, _, _, _, h5, rfl⟩, h6, h10, h12, h9⟩, h7, h8⟩
    · exact (xisT_cons (PySem.W.mg_of X G h2) ⟨⟨h11, ⟨h13, h14, h10, h15⟩, h16, h17, h18, h19⟩, h7⟩ xisT_nil)
    · exact (subsT_cons (PySem.W.mg_of X G h2) (exm_own h10 h11 h12 h20) subsT_nil)
    · exact (subsT_cons (PySem.W.mg_of X G h2) (exm_own h21 h22 h23 h24) subsT_nil)
    · exact (kitsT_cons (PySem.W.mg_of X G h2) h25 kitsT_nil)
    · exact (kitsT_cons (PySem.W.mg_of X G h2) h26 kitsT_nil)
    · exact (kitsT_cons (PySem.W.mg_of X G h2) h27 kitsT_nil)
    · exact (kitsT_cons (PySem.W.mg_of X G h2) h28 kitsT_nil)
    · exact PySem.W.mg_of X G h29
    · exact df_mk h30 h31 h32
    · exact Binds.all fun us hl => match us, hl with | [_, _], _ => rfl
    · exact PySem.W.mg_of X G h33
    · exact df_mk h34 h35 h36
    · exact Binds.all fun us hl => match us, hl with | [_, _], _ => rfl
    · exact PySem.W.mg_of X G h37
    · exact df_mk h38 h39 h40
    · exact Binds.all fun us hl => match us, hl with | [_, _, _], _ => rfl
    · exact PySem.W.mg_of X G h41
    · exact df_mk h42 h43 h44
    · exact Binds.all fun us hl => match us, hl with | [_], _ => rfl
    · exact PySem.W.mg_of X G h45
    · exact df_mk h46 h47 h48
    · exact Binds.all fun us hl => match us, hl with | [_], _ => rfl
    · exact PySem.W.mg_of X G h49
    · exact df_mk h50 h51 h52
    · exact Binds.all fun us hl => match us, hl with | [_, _], _ => rfl
    · exact PySem.W.mg_of X G h53
    · exact df_mk h54 h55 h56
    · exact Binds.all fun us hl => match us, hl with | [_], _ => rfl
    · exact PySem.W.mg_of X G h57
    · exact df_mk h58 h59 h60
    · exact Binds.all fun us hl => match us, hl with | [_, _], _ => rfl
    · exact PySem.W.mg_of X G h61
    · exact df_mk h62 h63 h64
    · exact Binds.all fun us hl => match us, hl with | [_, _], _ => rfl
    · exact PySem.W.mg_of X G h65
    · exact df_mk h66 h67 h68
    · exact Binds.all fun us hl => match us, hl with | [_, _], _ => rfl
    · exact PySem.W.mg_of X G h69
    · exact df_mk h70 h71 h72
    · exact Binds.all fun us hl => match us, hl with | [_, _, _], _ => rfl
    · exact PySem.W.mg_of X G h73
    · exact df_mk h74 h75 h76
    · exact Binds.all fun us hl => match us, hl with | [_, _], _ => rfl
    · exact PySem.W.mg_of X G h77
    · exact df_mk h78 h79 h80
    · exact Binds.all fun us hl => match us, hl with | [_, _], _ => rfl
    · exact PySem.W.mg_of X G h81
    · exact df_mk h82 h83 h84
    · exact Binds.all fun us hl => match us, hl with | [_], _ => rfl
    · exact h85
    · exact h86
    · exact df_mk h87 h88 h89
    · exact dbinds (st := s_KeptError_init) (ps := ["self", "what"]) (us := [.none]) (dd := [.non]) l.prog w 2 1 h87 h90 (WRs.cons WR.non WRs.nil) h88 h89 (by decide) rfl fun _ _ _ _ _ _ _ us its h1 h2 => match us, its, h1, h2 with | [u0, u1], [d0], _, _ => ⟨_, rfl, rfl⟩
    · exact PySem.W.mg_of X G h91
    · exact df_mk h92 h93 h94
    · exact Binds.all fun us hl => match us, hl with | [_, _, _], _ => rfl
    · exact PySem.W.mg_of X G h95
    · exact df_mk h96 h97 h98
    · exact Binds.all fun us hl => match us, hl with | [_, _], _ => rfl
    · exact PySem.W.mg_of X G h99
    · exact df_mk h100 h101 h102
    · exact Binds.all fun us hl => match us, hl with | [_, _], _ => rfl
    · exact PySem.W.mg_of X G h103
    · exact df_mk h104 h105 h106
    · exact Binds.all fun us hl => match us, hl with | [_, _], _ => rfl
    · exact PySem.W.mg_of X G h107
    · exact df_mk h108 h109 h110
    · exact Binds.all fun us hl => match us, hl with | [_, _, _], _ => rfl
    · exact PySem.W.mg_of X G h111
    · exact df_mk h112 h113 h114
    · exact Binds.all fun us hl => match us, hl with | [_], _ => rfl
    · exact PySem.W.mg_of X G h115
    · exact df_mk h116 h117 h118
    · exact Binds.all fun us hl => match us, hl with | [_], _ => rfl
    · exact df_mk h120 h121 h122
    · exact ⟨_, PySem.W.mg_of X G h123⟩
    · exact ⟨_, PySem.W.mg_of X G h124⟩
    · exact ⟨_, PySem.W.mg_of X G h125⟩
    · exact ⟨_, PySem.W.mg_of X G h126⟩
    · exact PySem.W.mg_none_of X G h127
    · exact PySem.W.mg_none_of X G h128
    · exact PySem.W.mg_none_of X G h129
    · exact PySem.W.mg_none_of X G h130
    · exact PySem.W.mg_none_of X G h131
    · exact PySem.W.mg_none_of X G h132
    · exact PySem.W.mg_none_of X G h133
    · exact PySem.W.mg_none_of X G h134
    · exact PySem.W.mg_none_of X G h135
    · exact PySem.W.mg_none_of X G h136
    · exact PySem.W.mg_none_of X G h137
  exact ⟨(PySem.W.fnOf "law" "law" (defArgs s_law) (defBody s_law) (defScope s_law) .none kV22 dc22 pm22 an22 cd22 ct22), (), trivial, fun s v => .of_eq rfl, fun base _ _ => ok_law T⟩
end K73

/-! TOK: texts of tokens, plainly. -/
namespace TOK
open PySem DL L2
abbrev S (l : List Nat) : Str := ⟨l.toArray⟩
theorem S_len (l : List Nat) : (S l).length = l.length := by show l.toArray.size = _; simp
theorem S_app (l m : List Nat) : S l ++ S m = S (l ++ m) := by show (⟨l.toArray ++ m.toArray⟩ : Str) = _; simp
theorem S_inj {l m : List Nat} (h : S l = S m) : l = m := by
  have := congrArg (fun x : Str => x.cps.toList) h
  simpa using this
def dig (c : Nat) : Bool := decide (48 ≤ c ∧ c ≤ 57)
def ltr (c : Nat) : Bool := decide (97 ≤ c ∧ c ≤ 122)
theorem op_at {l : List Nat} {i : Nat} {P : O → Prop} (h : i < l.length) (hz : l.length ≤ 1000000) (p : P (.im (.str (S [l[i]])))) : OP (elemOO (.im (.str (S l))) (.int i)) P := by
  refine ⟨.im (.str (S [l[i]])), ?_, p⟩
  show (if (S l).length ≤ sizeLine then (L2.atI (S l).cps.toList i).map fun c => D.str ⟨#[c]⟩ else none).map O.im = _
  rw [if_pos (by rw [S_len]; exact Nat.le_trans hz (by decide)), show (S l).cps.toList = l from rfl, atI_nn _ _ (by omega), Int.toNat_natCast, List.getElem?_eq_getElem h]
  rfl
theorem op_lenS {l : List Nat} {P : D → Prop} (hz : l.length ≤ 1000000) (p : P (.int (l.length : Int))) : OP (lenD [.str (S l)]) P :=
  ⟨.int (l.length : Int), by
    show (if (S l).length ≤ sizeLine then some (D.int ((S l).length : Int)) else none) = _
    rw [S_len, if_pos (Nat.le_trans hz (by decide))], p⟩
theorem in_sign (c : Nat) (z : Str) : inD (.str (S [c])) (.str z) = some (decide (c ∈ z.cps.toList)) := by
  show some (!(Builtin.Str.occurrences z (S [c]) 0 z.length 1).isEmpty) = _
  exact congrArg some (PySem.StrLaws.found_one z c)
theorem in_dig (c : Nat) : inD (.str (S [c])) (.str (Str.ofString "0123456789")) = some (dig c) := by
  rw [in_sign, show (Str.ofString "0123456789").cps.toList = [48, 49, 50, 51, 52, 53, 54, 55, 56, 57] by decide +kernel]
  congr 1
  unfold dig
  rw [decide_eq_decide]
  simp only [List.mem_cons, List.not_mem_nil, or_false]
  omega
theorem mem_dig (c : Nat) : decide (c ∈ (Str.ofString "0123456789").cps.toList) = dig c := Option.some.inj ((in_sign c _).symm.trans (in_dig c))
theorem br_sg {c : Nat} {z : Str} {X Y : Prop} (h : BR (decide (c ∈ z.cps.toList)) Y X) : BR (Builtin.Str.occurrences z (S [c]) 0 z.length 1).isEmpty X Y := by
  rw [← PySem.StrLaws.found_one z c] at h
  exact ⟨fun e => h.2 (by rw [show (Builtin.Str.occurrences z ⟨#[c]⟩ 0 z.length 1).isEmpty = true from e]; rfl), fun e => h.1 (by rw [show (Builtin.Str.occurrences z ⟨#[c]⟩ 0 z.length 1).isEmpty = false from e]; rfl)⟩
theorem br_dg {c : Nat} {X Y : Prop} (h : BR (dig c) Y X) : BR (Builtin.Str.occurrences (Str.ofString "0123456789") (S [c]) 0 (Str.ofString "0123456789").length 1).isEmpty X Y := br_sg (by rw [mem_dig]; exact h)
/-- signs below 128 -/
def ok (l : List Nat) : Prop := ∀ c ∈ l, c < 128
theorem strOk_S {l : List Nat} (h : ok l) : PyData.strOk (S l) = true := by
  show l.toArray.all (· < 0x110000) = true
  rw [List.all_toArray, List.all_eq_true]
  intro c hc
  have := h c hc
  exact decide_eq_true (by omega)
theorem ok_app {l m : List Nat} (h : ok l) (k : ok m) : ok (l ++ m) := fun c hc => (List.mem_append.mp hc).elim (h c) (k c)
theorem nice_S {l : List Nat} (h : ok l) : nice 0 (.str (S l)) = true := by rw [nice]; exact strOk_S h
theorem op_eqS {l m : List Nat} {P : Bool → Prop} (h : ok l) (k : ok m) (p : P (decide (l = m))) : OP (eqD (.str (S l)) (.str (S m))) P := by
  obtain ⟨b, hb, hiff⟩ := eqD_nice (nice_S h) (nice_S k)
  refine ⟨b, hb, ?_⟩
  have : b = decide (l = m) := by
    rw [Bool.eq_iff_iff, hiff, decide_eq_true_iff]
    constructor
    · intro z; injection z with z; exact S_inj z
    · intro z; rw [z]
  rw [this]
  exact p
theorem cutS_eq {l : List Nat} {a b : Nat} (h : a ≤ l.length) : cutS (S l) (some (a : Int)) (some (b : Int)) = S ((l.drop a).take (b - a)) := by
  unfold cutS
  rw [HT.sIx_nat, HT.sIx_nat, S_len, show (S l).cps.toList = l from rfl, Nat.min_eq_left h]
  congr 2
  by_cases hb : b ≤ l.length
  · rw [Nat.min_eq_left hb]
  · rw [Nat.min_eq_right (by omega), List.take_of_length_le (by rw [List.length_drop]; omega), List.take_of_length_le (by rw [List.length_drop]; omega)]
/-! ### runs -/
theorem while_take {p : Nat → Bool} : ∀ {l : List Nat} {q : Nat}, (∀ c ∈ l.take q, p c = true) → (∀ c, (l.drop q).head? = some c → p c = false) → q ≤ l.length → l.takeWhile p = l.take q
  | [], q, _, _, hq => by rw [List.takeWhile_nil, List.take_nil]
  | c :: l, 0, _, h, _ => by
    rw [List.take_zero, List.takeWhile_cons, h c rfl]
    rfl
  | c :: l, q + 1, h1, h2, hq => by
    rw [List.take_succ_cons, List.takeWhile_cons, h1 c (by rw [List.take_succ_cons]; exact List.mem_cons_self)]
    show c :: List.takeWhile p l = c :: List.take q l
    rw [while_take (l := l) (q := q) (fun d hd => h1 d (by rw [List.take_succ_cons]; exact List.mem_cons_of_mem _ hd)) h2 (by simpa using hq)]
theorem while_app {p : Nat → Bool} {t r : List Nat} (h1 : ∀ c ∈ t, p c = true) (h2 : ∀ c, r.head? = some c → p c = false) : (t ++ r).takeWhile p = t := by
  rw [while_take (q := t.length) (by rw [List.take_left]; exact h1) (by rw [List.drop_left]; exact h2) (by rw [List.length_append]; omega), List.take_left]
/-! ### tokens -/
def numT (t : List Nat) : Prop := t ≠ [] ∧ (∀ c ∈ t, dig c = true) ∧ (t.head? = some 48 → t.length = 1) ∧ t.length ≤ 16 ∧ ∃ n : Int, intText? (S t) = some n ∧ n ≤ 1000000000000000
def wordT (t : List Nat) : Prop := t ≠ [] ∧ (∀ c ∈ t, ltr c = true) ∧ t.length ≤ 12
def signL : List (List Nat) := [[61, 61], [60, 61], [60], [61], [43], [45], [42], [40], [41], [91], [93], [44], [59]]
def Tok (t : List Nat) : Prop := numT t ∨ wordT t ∨ t ∈ signL
theorem dig_lt {c : Nat} (h : dig c = true) : 48 ≤ c ∧ c ≤ 57 := of_decide_eq_true h
theorem ltr_lt {c : Nat} (h : ltr c = true) : 97 ≤ c ∧ c ≤ 122 := of_decide_eq_true h
theorem Tok.ne {t : List Nat} (h : Tok t) : t ≠ [] := by
  rcases h with h | h | h
  · exact h.1
  · exact h.1
  · intro e; rw [e] at h; exact absurd h (by decide)
theorem Tok.len {t : List Nat} (h : Tok t) : t.length ≤ 16 := by
  rcases h with h | h | h
  · exact h.2.2.2.1
  · exact Nat.le_trans h.2.2 (by omega)
  · exact (by decide : ∀ t ∈ signL, t.length ≤ 16) t h
theorem Tok.ok {t : List Nat} (h : Tok t) : ok t := by
  intro c hc
  rcases h with h | h | h
  · have := dig_lt (h.2.1 c hc); omega
  · have := ltr_lt (h.2.1 c hc); omega
  · exact (by decide : ∀ t ∈ signL, ∀ c ∈ t, c < 128) t h c hc
/-- what a token begins with -/
def hd (t : List Nat) : Nat := t.headD 0
/-- do they read as one -/
def glued (b a : List Nat) : Bool := if dig (hd b) then dig (hd a) else if ltr (hd b) then ltr (hd a) else ((decide (b = [60]) || decide (b = [61])) && decide (hd a = 61))
/-- what may follow t -/
def fol (t r : List Nat) : Prop := (numT t → ∀ c, r.head? = some c → dig c = false) ∧ (wordT t → ∀ c, r.head? = some c → ltr c = false) ∧ (t = [60] ∨ t = [61] → r.head? ≠ some 61)
/-! ### the text -/
abbrev Sg := Nat × List Nat
def txt : List Sg → Nat → List Nat
  | [], f => List.replicate f 32
  | (g, t) :: r, f => List.replicate g 32 ++ (t ++ txt r f)
def ex (p : Nat) : List Sg → List (List Nat × Nat)
  | [] => []
  | (g, t) :: r => (t, p + g) :: ex (p + g + t.length) r
def Good : List Sg → Nat → Prop
  | [], _ => True
  | (_, t) :: r, f => Tok t ∧ fol t (txt r f) ∧ Good r f
def Adj : List Sg → Prop
  | [] => True
  | [x] => Tok x.2
  | x :: y :: r => Tok x.2 ∧ (y.1 > 0 ∨ glued x.2 y.2 = false) ∧ Adj (y :: r)
theorem Adj.snoc : ∀ {l : List Sg} {g : Nat} {t : List Nat}, Adj l → Tok t → (∀ x, l.getLast? = some x → g > 0 ∨ glued x.2 t = false) → Adj (l ++ [(g, t)])
  | [], g, t, _, ht, _ => ht
  | [x], g, t, h, ht, hl => ⟨h, hl x rfl, ht⟩
  | x :: y :: r, g, t, h, ht, hl => ⟨h.1, h.2.1, Adj.snoc h.2.2 ht fun z hz => hl z (by rw [List.getLast?_cons_cons]; exact hz)⟩
/-! ### numbers -/
theorem num_ok {n : Nat} (h : n ≤ 1000000000000000) : numT (TL.numL n) := by
  have hl : (TL.numL n).length ≤ 16 := TL.numL_len (k := 16) (by omega) (by omega)
  have hd0 : ∀ (k n : Nat), n < 10 ^ k → n ≠ 0 → (TL.numL n).head? ≠ some 48 := by
    intro k
    induction k with
    | zero => intro n h1 h2; omega
    | succ k ih =>
      intro n h1 h2
      by_cases h10 : n < 10
      · rw [TL.numL_lt h10]
        intro e
        have : 48 + n = 48 := Option.some.inj e
        omega
      · rw [TL.numL_step (by omega)]
        have h3 : n / 10 < 10 ^ k := by rw [Nat.pow_succ] at h1; omega
        have h4 := ih (n / 10) h3 (by omega)
        have h5 := TL.numL_ne (n / 10)
        cases e : TL.numL (n / 10) with
        | nil => exact absurd e h5
        | cons c r => rw [e] at h4; exact h4
  refine ⟨TL.numL_ne n, fun c hc => ?_, fun he => ?_, hl, n, ?_, by omega⟩
  · have := TL.numL_digits n c hc
    exact decide_eq_true (by omega)
  · by_cases h0 : n = 0
    · rw [h0, TL.numL_lt (by omega)]; rfl
    · exact absurd he (hd0 16 n (by omega) h0)
  · have e : S (TL.numL n) = Str.ofString (toString ((n : Nat) : Int)) := TL.ext_tl (TL.tl_num n).symm
    rw [e]
    exact TL.int_num (by omega)
theorem ok_one {c : Nat} (h : c < 128) : ok [c] := fun d hd => by rw [List.mem_singleton.mp hd]; exact h
theorem op_slice {l : List Nat} {a b : Nat} {bi : Int} {P : Rv → Prop} (h : a ≤ l.length) (hz : l.length ≤ 1000000) (hb : bi = (b : Int)) (p : P (.im (.str (S ((l.drop a).take (b - a)))))) : OP (cutO (.im (.str (S l))) (some (a : Int)) (some bi)) P := by
  refine ⟨_, ?_, p⟩
  rw [hb]
  show (if (S l).length ≤ sizeLine then some (Rv.im (.str (cutS (S l) (some (a : Int)) (some (b : Int))))) else none) = _
  rw [if_pos (by rw [S_len]; exact Nat.le_trans hz (by decide)), cutS_eq h]
theorem Tok.cons {t : List Nat} (h : Tok t) : ∃ r, t = hd t :: r := by
  cases t with
  | nil => exact absurd rfl h.ne
  | cons c r => exact ⟨r, rfl⟩
/-- the next sign is a space, or a token begins -/
theorem step {g : Nat} {l : List Sg} {f : Nat} (hG : Good l f) (hne : List.replicate g 32 ++ txt l f ≠ []) :
    (∃ g2 l2 f2, List.replicate g 32 ++ txt l f = 32 :: (List.replicate g2 32 ++ txt l2 f2) ∧ Good l2 f2 ∧ ∀ p, ex (p + 1 + g2) l2 = ex (p + g) l) ∨ (g = 0 ∧ ∃ t r, l = (0, t) :: r) := by
  cases g with
  | succ n => exact .inl ⟨n, l, f, rfl, hG, fun p => by rw [show p + 1 + n = p + (n + 1) by omega]⟩
  | zero =>
    cases l with
    | nil =>
      cases f with
      | zero => exact absurd rfl hne
      | succ m => exact .inl ⟨0, [], m, rfl, .intro, fun p => rfl⟩
    | cons x r =>
      obtain ⟨h, t⟩ := x
      cases h with
      | zero => exact .inr ⟨rfl, t, r, rfl⟩
      | succ n => exact .inl ⟨0, (n, t) :: r, f, rfl, hG, fun p => by
          show (t, p + 1 + 0 + n) :: ex (p + 1 + 0 + n + t.length) r = (t, p + 0 + (n + 1)) :: ex (p + 0 + (n + 1) + t.length) r
          rw [show p + 1 + 0 + n = p + 0 + (n + 1) by omega]⟩
end TOK

/-! NTN: values as texts, plainly. -/
namespace NTN
open PySem DL L2 TOK
/-- the text of a whole number -/
def tx (k : Int) : List Nat := if k < 0 then 45 :: TL.numL k.natAbs else TL.numL k.natAbs
theorem tx_str (k : Int) : Str.ofString (toString k) = S (tx k) := by
  unfold tx
  cases k with
  | ofNat n =>
    rw [if_neg (by simp)]
    exact TL.ext_tl (TL.tl_num n)
  | negSucc m =>
    rw [if_pos (by omega)]
    refine TL.ext_tl ?_
    have e : toString (Int.negSucc m) = "-" ++ Nat.repr (m + 1) := rfl
    have e2 : (Str.ofString (Nat.repr (m + 1))).cps.toList = TL.numL (m + 1) := TL.tl_num (m + 1)
    rw [e, PySem.Str.ofString_eq_toList, String.toList_append, List.map_append]
    rw [PySem.Str.ofString_eq_toList] at e2
    show _ ++ _ = 45 :: TL.numL (m + 1)
    rw [show (Nat.repr (m + 1)).toList.map Char.toNat = TL.numL (m + 1) from e2]
    rfl
theorem num_dig {n : Nat} : ∀ c ∈ TL.numL n, dig c = true := fun c hc => by
  have := TL.numL_digits n c hc
  exact decide_eq_true (by omega)
theorem num_hd : ∀ {n : Nat}, n ≠ 0 → (TL.numL n).head? ≠ some 48 := by
  intro n
  induction n using Nat.strongRecOn with
  | _ n ih =>
    intro h2
    by_cases h10 : n < 10
    · rw [TL.numL_lt h10]
      intro e
      have : 48 + n = 48 := Option.some.inj e
      omega
    · rw [TL.numL_step (by omega)]
      have h4 := ih (n / 10) (by omega) (by omega)
      have h5 := TL.numL_ne (n / 10)
      cases e : TL.numL (n / 10) with
      | nil => exact absurd e h5
      | cons c r => rw [e] at h4; exact h4
theorem num_len {n : Nat} (h : n < 10 ^ 60) : (TL.numL n).length ≤ 60 := TL.numL_len (by decide) h
theorem num_int {n : Nat} (h : n < 10 ^ 60) : intText? (S (TL.numL n)) = some (n : Int) := by
  have e : S (TL.numL n) = Str.ofString (toString ((n : Nat) : Int)) := TL.ext_tl (TL.tl_num n).symm
  rw [e]
  exact TL.int_num (Nat.le_trans (num_len h) (by decide))
theorem num_ok' {n : Nat} : ok (TL.numL n) := fun c hc => by
  have := dig_lt (num_dig c hc)
  omega
theorem num_cons (n : Nat) : ∃ c r, TL.numL n = c :: r ∧ dig c = true ∧ (n ≠ 0 → c ≠ 48) := by
  cases e : TL.numL n with
  | nil => exact absurd e (TL.numL_ne n)
  | cons c r =>
    refine ⟨c, r, rfl, num_dig c (by rw [e]; exact List.mem_cons_self), fun h hc => ?_⟩
    have := num_hd h
    rw [e, hc] at this
    exact this rfl
/-- a value that is no tuple, and its text -/
def leafW (d : D) (w : List Nat) : Prop :=
  (∃ b : Bool, d = .bl b ∧ w = [if b then 84 else 70]) ∨ (∃ k : Int, d = .int k ∧ k.natAbs < 10 ^ 60 ∧ w = tx k) ∨ (∃ l, d = .str (S l) ∧ ok l ∧ l.length ≤ 1000 ∧ w = TL.numL l.length ++ 58 :: l)
/-- values at most n deep, and their texts -/
def Wr : Nat → D → List Nat → Prop
  | 0, d, w => leafW d w
  | n + 1, d, w => leafW d w ∨ ∃ ps : List (D × List Nat), d = .tup (ps.map (·.1)) ∧ w = 40 :: (TL.joinL [32] (ps.map (·.2)) ++ [41]) ∧ ∀ p ∈ ps, Wr n p.1 p.2
theorem Wr.leaf {d : D} {w : List Nat} (h : leafW d w) : ∀ n, Wr n d w
  | 0 => h
  | n + 1 => .inl h
theorem Wr.up : ∀ {n : Nat} {d : D} {w : List Nat}, Wr n d w → Wr (n + 1) d w
  | 0, d, w, h => .inl h
  | n + 1, d, w, h => by
    rcases h with h | ⟨ps, h1, h2, h3⟩
    · exact .inl h
    · exact .inr ⟨ps, h1, h2, fun p hp => (h3 p hp).up⟩
theorem Wr.mono {n m : Nat} {d : D} {w : List Nat} (h : Wr n d w) (hm : n ≤ m) : Wr m d w := by
  induction m with
  | zero => rw [show n = 0 by omega] at h; exact h
  | succ m ih =>
    by_cases e : n = m + 1
    · rw [e] at h; exact h
    · exact (ih (by omega)).up
theorem ok_tx (k : Int) : ok (tx k) := by
  unfold tx
  split
  · exact ok_app (l := [45]) (ok_one (by omega)) num_ok'
  · exact num_ok'
theorem ok_joinL {s : Nat} (hs : s < 128) : ∀ {l : List (List Nat)}, (∀ w ∈ l, ok w) → ok (TL.joinL [s] l)
  | [], _ => fun c hc => by cases hc
  | [p], h => h p List.mem_cons_self
  | p :: q :: r, h => ok_app (h p List.mem_cons_self) (ok_app (ok_one hs) (ok_joinL hs fun w hw => h w (List.mem_cons_of_mem _ hw)))
theorem leafW.ok {d : D} {w : List Nat} (h : leafW d w) : TOK.ok w := by
  rcases h with ⟨b, _, rfl⟩ | ⟨k, _, _, rfl⟩ | ⟨l, _, h, _, rfl⟩
  · exact ok_one (by cases b <;> decide)
  · exact ok_tx k
  · exact ok_app num_ok' (ok_app (l := [58]) (ok_one (by omega)) h)
theorem Wr.ok : ∀ {n : Nat} {d : D} {w : List Nat}, Wr n d w → TOK.ok w
  | 0, d, w, h => leafW.ok h
  | n + 1, d, w, h => by
    rcases h with h | ⟨ps, _, rfl, h3⟩
    · exact h.ok
    · refine ok_app (l := [40]) (ok_one (by omega)) (ok_app (ok_joinL (by omega) fun w hw => ?_) (ok_one (by omega)))
      obtain ⟨p, hp, rfl⟩ := List.mem_map.mp hw
      exact (h3 p hp).ok
theorem tx_len {k : Int} (h : k.natAbs < 10 ^ 60) : (tx k).length ≤ 61 := by
  have := num_len h
  unfold tx
  split
  · show (TL.numL k.natAbs).length + 1 ≤ 61
    omega
  · omega
theorem leafW.len {d : D} {w : List Nat} (h : leafW d w) : w.length ≤ 1005 := by
  rcases h with ⟨b, _, rfl⟩ | ⟨k, _, hk, rfl⟩ | ⟨l, _, h, hl, rfl⟩
  · show 1 ≤ 1005; omega
  · exact Nat.le_trans (tx_len hk) (by omega)
  · have : (TL.numL l.length).length ≤ 4 := TL.numL_len (by decide) (by omega)
    rw [List.length_append, List.length_cons]
    omega
theorem joinL_len {s : Nat} : ∀ l : List (List Nat), (TL.joinL [s] l).length ≤ (l.map fun w => w.length + 1).sum
  | [] => Nat.le_refl _
  | [p] => by show p.length ≤ _; rw [List.map_cons, List.sum_cons]; omega
  | p :: q :: r => by
    show (p ++ (s :: TL.joinL [s] (q :: r))).length ≤ _
    have := joinL_len (s := s) (q :: r)
    rw [List.map_cons, List.sum_cons, List.length_append, List.length_cons]
    omega
theorem joinL_sum {s : Nat} : ∀ l : List (List Nat), (l.map (·.length)).sum + l.length ≤ (TL.joinL [s] l).length + 1
  | [] => by show 0 + 0 ≤ _; omega
  | [p] => by show p.length + 0 + 1 ≤ p.length + 1; omega
  | p :: q :: r => by
    show p.length + ((q :: r).map (·.length)).sum + ((q :: r).length + 1) ≤ (p ++ (s :: TL.joinL [s] (q :: r))).length + 1
    have := joinL_sum (s := s) (q :: r)
    rw [List.length_append, show (s :: TL.joinL [s] (q :: r)).length = (TL.joinL [s] (q :: r)).length + 1 from rfl]
    omega
theorem mem_joinL {s : Nat} : ∀ {l : List (List Nat)} {w : List Nat}, w ∈ l → w.length ≤ (TL.joinL [s] l).length
  | [p], w, h => by rw [List.mem_singleton.mp h]; exact Nat.le_refl _
  | p :: q :: r, w, h => by
    show _ ≤ (p ++ (s :: TL.joinL [s] (q :: r))).length
    rw [List.length_append, List.length_cons]
    rcases List.mem_cons.mp h with rfl | h
    · omega
    · have := mem_joinL (s := s) h
      omega
theorem join_S (l : List (List Nat)) : Txt.join (Str.ofString " ") (l.map S) = S (TL.joinL [32] l) := by
  refine TL.ext_tl ?_
  rw [TL.join_eq, TL.tl_join, List.map_map]
  rw [show TL.tl (Str.ofString " ") = [32] by decide +kernel]
  congr 1
  exact (List.map_congr_left fun w _ => rfl).trans (List.map_id' _)
theorem join_S0 (l : List (List Nat)) : Txt.join (Str.ofString "") (l.map S) = S l.flatten := by
  refine TL.ext_tl ?_
  rw [TL.join_eq, TL.tl_join, List.map_map]
  rw [show TL.tl (Str.ofString "") = [] by decide +kernel]
  rw [show l.map (TL.tl ∘ S) = l from (List.map_congr_left fun w _ => rfl).trans (List.map_id' _)]
  show TL.joinL [] l = l.flatten
  induction l with
  | nil => rfl
  | cons p r ih =>
    cases r with
    | nil => show p = p ++ []; simp
    | cons q r =>
      show p ++ ([] ++ TL.joinL [] (q :: r)) = p ++ _
      rw [ih]
      rfl
end NTN

/-! RDT: reading any text, plainly: what the reader gives, and what an automaton says. -/
namespace RDT
open PySem DL L2 TOK NTN
def val (t : List Nat) : Nat := NumText.digitsVal t
/-- the digits that are read as a number -/
def dg (l : List Nat) : List Nat := if l.head? = some 48 then [48] else (l.takeWhile dig).take 60
def DgOk (t : List Nat) : Prop := t ≠ [] ∧ (∀ c ∈ t, dig c = true) ∧ (t.head? = some 48 → t = [48]) ∧ t.length ≤ 60
theorem tw_pre {p : Nat → Bool} : ∀ l : List Nat, l.takeWhile p = l.take (l.takeWhile p).length
  | [] => rfl
  | c :: l => by
    rw [List.takeWhile_cons]
    split
    · show c :: l.takeWhile p = c :: l.take (l.takeWhile p).length
      rw [← tw_pre l]
    · rfl
theorem dg_pre (l : List Nat) : dg l = l.take (dg l).length := by
  unfold dg
  split
  · rename_i h
    cases l with
    | nil => cases h
    | cons c l => cases h; rfl
  · have h := tw_pre (p := dig) l
    rw [List.length_take]
    generalize l.takeWhile dig = t at h
    conv => lhs; rw [h]
    rw [List.take_take]
theorem dg_app (l : List Nat) : dg l ++ l.drop (dg l).length = l := by
  have h := dg_pre l
  generalize (dg l).length = n at h ⊢
  rw [h, List.take_append_drop]
theorem dg_len (l : List Nat) : (dg l).length ≤ l.length := by
  have h := congrArg List.length (dg_app l)
  rw [List.length_append] at h
  omega
theorem mem_tw {p : Nat → Bool} : ∀ {l : List Nat} {c : Nat}, c ∈ l.takeWhile p → p c = true
  | c :: l, d, h => by
    rw [List.takeWhile_cons] at h
    split at h
    · rename_i hc
      rcases List.mem_cons.mp h with rfl | h
      · exact hc
      · exact mem_tw h
    · cases h
theorem dg_dig {l : List Nat} {c : Nat} (h : c ∈ dg l) : dig c = true := by
  unfold dg at h
  split at h
  · rw [List.mem_singleton.mp h]; rfl
  · exact mem_tw (List.mem_of_mem_take h)
theorem dg_60 (l : List Nat) : (dg l).length ≤ 60 := by
  unfold dg
  split
  · show 1 ≤ 60; omega
  · rw [List.length_take]; omega
theorem dg_head {l : List Nat} (h : dg l ≠ []) : (dg l).head? = l.head? := by
  have e := dg_app l
  cases hd : dg l with
  | nil => exact absurd hd h
  | cons c t =>
    rw [hd] at e
    rw [← e]
    rfl
theorem dg_ok {l : List Nat} (h : dg l ≠ []) : DgOk (dg l) := by
  refine ⟨h, fun c hc => dg_dig hc, fun h48 => ?_, dg_60 l⟩
  rw [dg_head h] at h48
  unfold dg
  rw [if_pos h48]
theorem dg_ne {l : List Nat} {c : Nat} (h : l.head? = some c) (hc : dig c = true) : dg l ≠ [] := by
  unfold dg
  split
  · simp
  · cases l with
    | nil => cases h
    | cons d l =>
      cases h
      rw [List.takeWhile_cons, if_pos hc]
      simp
theorem all_digits {t : List Nat} (h : ∀ c ∈ t, dig c = true) : NumText.AllDigits t := fun c hc => by
  have := dig_lt (h c hc)
  omega
theorem back_map : ∀ {t : List Nat}, (∀ c ∈ t, dig c = true) → (t.map Char.ofNat).map Char.toNat = t
  | [], _ => rfl
  | c :: t, h => by
    have hc := dig_lt (h c List.mem_cons_self)
    rw [List.map_cons, List.map_cons, back_map fun d hd => h d (List.mem_cons_of_mem _ hd)]
    congr 1
    have : ∀ d : Nat, d < 10 → (Char.ofNat (48 + d)).toNat = 48 + d := by decide
    have h2 := this (c - 48) (by omega)
    rwa [show 48 + (c - 48) = c by omega] at h2
theorem num_val {t : List Nat} (h : DgOk t) : TL.numL (val t) = t := by
  obtain ⟨h1, h2, h3, _⟩ := h
  have hl : t.length = (t.length - 1) + 1 := by
    have := List.length_pos_iff.mpr h1
    omega
  have e := NumText.toDigits_digitsVal (t.length - 1) t hl (all_digits h2) (by
    cases t with
    | nil => exact absurd rfl h1
    | cons c r =>
      by_cases hc : c = 48
      · left
        have := h3 (by rw [hc]; rfl)
        rw [this]
        rfl
      · right
        have := dig_lt (h2 c List.mem_cons_self)
        exact ⟨c, r, rfl, by omega⟩)
  unfold TL.numL val
  rw [e]
  exact back_map h2
theorem fold_lt : ∀ (t : List Nat) (a : Nat), (∀ c ∈ t, dig c = true) → t.foldl (fun acc c => acc * 10 + (c - 48)) a < (a + 1) * 10 ^ t.length
  | [], a, _ => by show a < (a + 1) * 1; omega
  | c :: t, a, h => by
    have hc := dig_lt (h c List.mem_cons_self)
    have ih := fold_lt t (a * 10 + (c - 48)) fun d hd => h d (List.mem_cons_of_mem _ hd)
    rw [List.foldl_cons, List.length_cons, Nat.pow_succ]
    refine Nat.lt_of_lt_of_le ih ?_
    rw [Nat.mul_comm (10 ^ t.length) 10, ← Nat.mul_assoc]
    exact Nat.mul_le_mul_right _ (by omega)
theorem val_lt {t : List Nat} (h : DgOk t) : val t < 10 ^ 60 := by
  have h1 := fold_lt t 0 h.2.1
  rw [Nat.zero_add, Nat.one_mul] at h1
  exact Nat.lt_of_lt_of_le h1 (Nat.pow_le_pow_right (by decide) h.2.2.2)
/-! ### the reader -/
inductive Res
  | ok (d : D) (w r : List Nat)
  | bad (r : List Nat)
  | out
inductive ResI
  | ok (ps : List (D × List Nat)) (r : List Nat)
  | bad (r : List Nat)
  | out
def numR (l : List Nat) : Res :=
  if val (dg l) > 1000 ∨ (l.drop (dg l).length).head? ≠ some 58 then .ok (.int (val (dg l) : Int)) (dg l) (l.drop (dg l).length)
  else if (l.drop (dg l).length).tail.length < val (dg l) then .bad []
  else .ok (.str (S ((l.drop (dg l).length).tail.take (val (dg l))))) (dg l ++ 58 :: (l.drop (dg l).length).tail.take (val (dg l))) ((l.drop (dg l).length).tail.drop (val (dg l)))
def negR (r : List Nat) : Res :=
  if dg r = [] ∨ r.head? = some 48 then .bad r else .ok (.int (-(val (dg r) : Int))) (45 :: dg r) (r.drop (dg r).length)
def atom (l : List Nat) : Res := match l with
  | [] => .bad []
  | c :: r => if c = 84 then .ok (.bl true) [84] r else if c = 70 then .ok (.bl false) [70] r else if c = 45 then negR r else if dig c = true then numR (c :: r) else .bad (c :: r)
def stepV (I : Nat → List Nat → ResI) (d : Nat) (l : List Nat) : Res :=
  if l.head? = some 40 ∧ d < 12 then (if l.tail.head? = some 41 then .ok (.tup []) [40, 41] l.tail.tail else match I (d + 1) l.tail with
    | .ok ps r => .ok (.tup (ps.map (·.1))) (40 :: (TL.joinL [32] (ps.map (·.2)) ++ [41])) r
    | .bad r => .bad r
    | .out => .out) else atom l
def stepI (V : Nat → List Nat → Res) (I : Nat → List Nat → ResI) (d : Nat) (l : List Nat) : ResI := match V d l with
  | .ok v w r => if r.head? = some 41 then .ok [(v, w)] r.tail else if r.head? = some 32 then (match I d r.tail with
    | .ok ps r' => .ok ((v, w) :: ps) r'
    | .bad r' => .bad r'
    | .out => .out) else .bad r
  | .bad r => .bad r
  | .out => .out
def VI : Nat → (Nat → List Nat → Res) × (Nat → List Nat → ResI)
  | 0 => (fun _ _ => .out, fun _ _ => .out)
  | n + 1 => (stepV (VI n).2, stepI (VI n).1 (VI n).2)
def V (n d : Nat) (l : List Nat) : Res := (VI n).1 d l
def I (n d : Nat) (l : List Nat) : ResI := (VI n).2 d l
theorem V_succ (n d : Nat) (l : List Nat) : V (n + 1) d l = stepV (I n) d l := rfl
theorem I_succ (n d : Nat) (l : List Nat) : I (n + 1) d l = stepI (V n) (I n) d l := rfl
/-! ### what was read is what stood there -/
theorem leafW_nat {n : Nat} (h : n < 10 ^ 60) : leafW (.int (n : Int)) (TL.numL n) := .inr (.inl ⟨n, rfl, by omega, by unfold tx; rw [if_neg (by omega)]; rfl⟩)
theorem numR_ok {l : List Nat} {d : D} {w r : List Nat} (hl : ok l) (hne : dg l ≠ []) (h : numR l = .ok d w r) : l = w ++ r ∧ leafW d w := by
  have hok := dg_ok hne
  have hv := num_val hok
  unfold numR at h
  split at h
  · injection h with h1 h2 h3
    subst h1; subst h2; subst h3
    refine ⟨(dg_app l).symm, ?_⟩
    have := leafW_nat (val_lt hok)
    rwa [hv] at this
  · rename_i hc
    split at h
    · cases h
    · rename_i hlen
      injection h with h1 h2 h3
      subst h1; subst h2; subst h3
      have hc1 : val (dg l) ≤ 1000 := Nat.not_lt.mp fun z => hc (.inl z)
      have hc2 : (l.drop (dg l).length).head? = some 58 := Classical.byContradiction fun z => hc (.inr z)
      have hq : l.drop (dg l).length = 58 :: (l.drop (dg l).length).tail := by
        cases e : l.drop (dg l).length with
        | nil => rw [e] at hc2; cases hc2
        | cons c q => rw [e] at hc2; cases hc2; rfl
      have hlt : ((l.drop (dg l).length).tail.take (val (dg l))).length = val (dg l) := by rw [List.length_take]; omega
      refine ⟨?_, .inr (.inr ⟨_, rfl, fun c hc => ?_, by omega, by rw [hlt, hv]⟩)⟩
      · have e := dg_app l
        rw [List.append_assoc, List.cons_append, List.take_append_drop, ← hq]
        exact e.symm
      · exact hl c (List.mem_of_mem_drop (List.mem_of_mem_tail (List.mem_of_mem_take hc)))
theorem negR_ok {q : List Nat} {d : D} {w r : List Nat} (h : negR q = .ok d w r) : 45 :: q = w ++ r ∧ leafW d w := by
  unfold negR at h
  split at h
  · cases h
  · rename_i hc
    injection h with h1 h2 h3
    subst h1; subst h2; subst h3
    have hne : dg q ≠ [] := fun z => hc (.inl z)
    have hok := dg_ok hne
    have hv := num_val hok
    have h0 : val (dg q) ≠ 0 := fun z => by
      rw [z, TL.numL_lt (by omega)] at hv
      have := dg_head hne
      rw [← hv] at this
      exact hc (.inr this.symm)
    refine ⟨by rw [List.cons_append, dg_app], .inr (.inl ⟨_, rfl, by have := val_lt hok; omega, ?_⟩)⟩
    unfold tx
    rw [if_pos (by omega), show (-(val (dg q) : Int)).natAbs = val (dg q) by omega, hv]
theorem atom_ok {l : List Nat} {d : D} {w r : List Nat} (hl : ok l) (h : atom l = .ok d w r) : l = w ++ r ∧ leafW d w := by
  unfold atom at h
  split at h
  · cases h
  · rename_i c q
    split at h
    · rename_i hc; subst hc; cases h; exact ⟨rfl, .inl ⟨true, rfl, rfl⟩⟩
    split at h
    · rename_i hc; subst hc; cases h; exact ⟨rfl, .inl ⟨false, rfl, rfl⟩⟩
    split at h
    · rename_i hc; subst hc; exact negR_ok h
    split at h
    · rename_i hc
      exact numR_ok hl (dg_ne rfl hc) h
    · cases h
theorem numR_in {l : List Nat} : numR l ≠ .out := by
  unfold numR
  split
  · simp
  split
  · simp
  · simp
theorem atom_in {l : List Nat} : atom l ≠ .out := by
  unfold atom
  split
  · simp
  · split; · simp
    split; · simp
    split; · unfold negR; split <;> simp
    split; · exact numR_in
    simp
theorem leaf_ne {d : D} {w : List Nat} (h : leafW d w) : w ≠ [] := by
  rcases h with ⟨b, _, rfl⟩ | ⟨k, _, _, rfl⟩ | ⟨l, _, _, _, rfl⟩
  · simp
  · unfold tx
    split
    · simp
    · exact TL.numL_ne _
  · simp
theorem Wr_ne : ∀ {n : Nat} {d : D} {w : List Nat}, Wr n d w → w ≠ []
  | 0, d, w, h => leaf_ne h
  | n + 1, d, w, h => by
    rcases h with h | ⟨ps, _, rfl, _⟩
    · exact leaf_ne h
    · simp
theorem joinL_cons {v : List Nat} {ws : List (List Nat)} (h : ws ≠ []) : TL.joinL [32] (v :: ws) = v ++ 32 :: TL.joinL [32] ws := by
  cases ws with
  | nil => exact absurd rfl h
  | cons a ws => rfl
theorem VI_ok : ∀ (n : Nat), (∀ (d : Nat) (l : List Nat) (v : D) (w r : List Nat), ok l → d ≤ 12 → V n d l = .ok v w r → l = w ++ r ∧ Wr (12 - d) v w) ∧
    (∀ (d : Nat) (l : List Nat) (ps : List (D × List Nat)) (r : List Nat), ok l → d ≤ 12 → I n d l = .ok ps r → l = TL.joinL [32] (ps.map (·.2)) ++ 41 :: r ∧ ps ≠ [] ∧ ∀ p ∈ ps, Wr (12 - d) p.1 p.2)
  | 0 => ⟨fun d l v w r _ _ h => (by cases h), fun d l ps r _ _ h => (by cases h)⟩
  | n + 1 => by
    obtain ⟨ihV, ihI⟩ := VI_ok n
    refine ⟨fun d l v w r hl hd h => ?_, fun d l ps r hl hd h => ?_⟩
    · rw [V_succ] at h
      unfold stepV at h
      split at h
      · rename_i hc
        obtain ⟨h40, hd12⟩ := hc
        obtain ⟨q, rfl⟩ : ∃ q, l = 40 :: q := by
          cases l with
          | nil => cases h40
          | cons c q => cases h40; exact ⟨q, rfl⟩
        have hq : ok q := fun c hc => hl c (List.mem_cons_of_mem _ hc)
        have e12 : 12 - d = (12 - (d + 1)) + 1 := by omega
        rw [e12]
        split at h
        · rename_i h41
          injection h with h1 h2 h3
          subst h1; subst h2; subst h3
          have h41 : q.head? = some 41 := h41
          cases q with
          | nil => cases h41
          | cons c q =>
            cases h41
            exact ⟨rfl, .inr ⟨[], rfl, rfl, fun p hp => (nomatch hp)⟩⟩
        · split at h
          · rename_i ps r' hI
            injection h with h1 h2 h3
            subst h1; subst h2; subst h3
            obtain ⟨k1, k2, k3⟩ := ihI _ _ _ _ hq (by omega) hI
            refine ⟨?_, .inr ⟨ps, rfl, rfl, k3⟩⟩
            have k1 : q = _ := k1
            rw [List.cons_append, List.append_assoc]
            rw [k1]
            rfl
          · cases h
          · cases h
      · obtain ⟨k1, k2⟩ := atom_ok hl h
        exact ⟨k1, Wr.leaf k2 _⟩
    · rw [I_succ] at h
      unfold stepI at h
      split at h
      · rename_i v w r1 hV
        obtain ⟨k1, k2⟩ := ihV _ _ _ _ _ hl hd hV
        split at h
        · rename_i h41
          injection h with h1 h2
          subst h1; subst h2
          refine ⟨?_, by simp, fun p hp => by rw [List.mem_singleton.mp hp]; exact k2⟩
          rw [k1]
          cases r1 with
          | nil => cases h41
          | cons c r1 => cases h41; rfl
        split at h
        · rename_i h32
          have hr1 : ok r1.tail := fun c hc => hl c (by rw [k1]; exact List.mem_append_right _ (List.mem_of_mem_tail hc))
          split at h
          · rename_i ps2 r2 hI
            injection h with h1 h2
            subst h1; subst h2
            obtain ⟨j1, j2, j3⟩ := ihI _ _ _ _ hr1 hd hI
            refine ⟨?_, by simp, fun p hp => ?_⟩
            · rw [k1, List.map_cons, joinL_cons (by simpa using j2)]
              rw [List.append_assoc, List.cons_append, ← j1]
              cases r1 with
              | nil => cases h32
              | cons c r1 => cases h32; rfl
            · rcases List.mem_cons.mp hp with rfl | hp
              · exact k2
              · exact j3 p hp
          · cases h
          · cases h
        · cases h
      · cases h
      · cases h
/-- enough fuel -/
theorem VI_in : ∀ (n : Nat), (∀ (d : Nat) (l : List Nat), ok l → d ≤ 12 → 2 * l.length + 1 ≤ n → V n d l ≠ .out) ∧ (∀ (d : Nat) (l : List Nat), ok l → d ≤ 12 → 2 * l.length + 2 ≤ n → I n d l ≠ .out)
  | 0 => ⟨fun d l _ _ h => by omega, fun d l _ _ h => by omega⟩
  | n + 1 => by
    obtain ⟨ihV, ihI⟩ := VI_in n
    refine ⟨fun d l hl hd hn => ?_, fun d l hl hd hn => ?_⟩
    · rw [V_succ]
      unfold stepV
      split
      · rename_i hc
        obtain ⟨q, rfl⟩ : ∃ q, l = 40 :: q := by
          cases l with
          | nil => cases hc.1
          | cons c q => cases hc.1; exact ⟨q, rfl⟩
        rw [List.length_cons] at hn
        have h2 := ihI (d + 1) q (fun c hc => hl c (List.mem_cons_of_mem _ hc)) (by omega) (by omega)
        split
        · simp
        · show (match I n (d + 1) q with | .ok ps r => _ | .bad r => _ | .out => _) ≠ _
          cases e : I n (d + 1) q with
          | ok ps r => simp
          | bad r => simp
          | out => exact absurd e h2
      · exact atom_in
    · rw [I_succ]
      unfold stepI
      have h1 := ihV d l hl hd (by omega)
      cases e : V n d l with
      | out => exact absurd e h1
      | bad r => simp
      | ok v w r =>
        obtain ⟨k1, k2⟩ := (VI_ok n).1 _ _ _ _ _ hl hd e
        have hw := List.length_pos_iff.mpr (Wr_ne k2)
        have hlen := congrArg List.length k1
        rw [List.length_append] at hlen
        dsimp only
        split
        · simp
        split
        · rename_i h32
          have hr : r.length = r.tail.length + 1 := by
            cases r with
            | nil => cases h32
            | cons c r => rfl
          have h2 := ihI d r.tail (fun c hc => hl c (by rw [k1]; exact List.mem_append_right _ (List.mem_of_mem_tail hc))) hd (by omega)
          cases e2 : I n d r.tail with
          | ok ps r' => simp
          | bad r' => simp
          | out => exact absurd e2 h2
        · simp
/-! ### the automaton -/
def strip : Nat → List Nat → List Nat × Nat
  | 0, r => (r, 0)
  | d + 1, r => if r.head? = some 41 then strip d r.tail else (r, d + 1)
def Src (l : List Nat) (d : Nat) (r : List Nat) (d' : Nat) : Prop := (l.head? = some 40 ∧ d < 12 ∧ l.tail.head? = some 41 ∧ r = l.tail ∧ d' = d + 1) ∨ (l.head? ≠ some 40 ∧ (∃ v w, atom l = .ok v w r) ∧ d' = d)
inductive LawR : List Nat → Nat → Option (List Nat) → Prop
  | deep {l : List Nat} : l.head? = some 40 → LawR l 12 (some l)
  | opn {l : List Nat} {d : Nat} {res : Option (List Nat)} : l.head? = some 40 → d < 12 → l.tail.head? ≠ some 41 → LawR l.tail (d + 1) res → LawR l d res
  | bad {l r : List Nat} {d : Nat} : l.head? ≠ some 40 → atom l = .bad r → LawR l d (some r)
  | fin {l r : List Nat} {d d' : Nat} : Src l d r d' → strip d' r = ([], 0) → LawR l d none
  | wrong {l r r2 : List Nat} {d d' d2 : Nat} : Src l d r d' → strip d' r = (r2, d2) → (d2 = 0 ∨ r2.head? ≠ some 32) → ¬ (d2 = 0 ∧ r2 = []) → LawR l d (some r2)
  | next {l r r2 : List Nat} {d d' d2 : Nat} {res : Option (List Nat)} : Src l d r d' → strip d' r = (r2, d2) → d2 ≠ 0 → r2.head? = some 32 → LawR r2.tail d2 res → LawR l d res
def Aft (r : List Nat) (d : Nat) (res : Option (List Nat)) : Prop := (strip d r = ([], 0) ∧ res = none) ∨ (∃ r2 d2, strip d r = (r2, d2) ∧ (d2 = 0 ∨ r2.head? ≠ some 32) ∧ ¬ (d2 = 0 ∧ r2 = []) ∧ res = some r2) ∨ ∃ r2 d2, strip d r = (r2, d2) ∧ d2 ≠ 0 ∧ r2.head? = some 32 ∧ LawR r2.tail d2 res
theorem LawR.aft {l r : List Nat} {d d' : Nat} {res : Option (List Nat)} (h : Src l d r d') (k : Aft r d' res) : LawR l d res := by
  rcases k with ⟨k, rfl⟩ | ⟨r2, d2, k1, k2, k3, rfl⟩ | ⟨r2, d2, k1, k2, k3, k4⟩
  · exact .fin h k
  · exact .wrong h k1 k2 k3
  · exact .next h k1 k2 k3 k4
theorem Aft.close {r : List Nat} {d : Nat} {res : Option (List Nat)} (h : r.head? = some 41) (k : Aft r.tail d res) : Aft r (d + 1) res := by
  unfold Aft at k ⊢
  rwa [show strip (d + 1) r = strip d r.tail from if_pos h]
theorem Aft.stay {r : List Nat} {d : Nat} (h : r.head? ≠ some 41) (h2 : r.head? ≠ some 32) : Aft r (d + 1) (some r) := .inr (.inl ⟨r, d + 1, if_neg h, .inr h2, fun z => by omega, rfl⟩)
theorem Aft.go {r : List Nat} {d : Nat} {res : Option (List Nat)} (h : r.head? = some 32) (k : LawR r.tail (d + 1) res) : Aft r (d + 1) res := .inr (.inr ⟨r, d + 1, if_neg (by rw [h]; decide), by omega, h, k⟩)
theorem atom_40 (q : List Nat) : atom (40 :: q) = .bad (40 :: q) := rfl
theorem VI_law : ∀ (n : Nat), (∀ (d : Nat) (l : List Nat), d ≤ 12 → (∀ r, V n d l = .bad r → LawR l d (some r)) ∧ ∀ v w r, V n d l = .ok v w r → ∀ res, Aft r d res → LawR l d res) ∧
    (∀ (d : Nat) (l : List Nat), d < 12 → (∀ r, I n (d + 1) l = .bad r → LawR l (d + 1) (some r)) ∧ ∀ ps r, I n (d + 1) l = .ok ps r → ∀ res, Aft r d res → LawR l (d + 1) res)
  | 0 => ⟨fun d l _ => ⟨fun r h => (by cases h), fun v w r h => (by cases h)⟩, fun d l _ => ⟨fun r h => (by cases h), fun ps r h => (by cases h)⟩⟩
  | n + 1 => by
    obtain ⟨ihV, ihI⟩ := VI_law n
    refine ⟨fun d l hd => ?_, fun d l hd => ?_⟩
    · rw [V_succ]
      unfold stepV
      by_cases hc : l.head? = some 40 ∧ d < 12
      · rw [if_pos hc]
        by_cases h41 : l.tail.head? = some 41
        · rw [if_pos h41]
          refine ⟨fun r h => (by cases h), fun v w r h res k => ?_⟩
          injection h with h1 h2 h3
          subst h3
          exact LawR.aft (.inl ⟨hc.1, hc.2, h41, rfl, rfl⟩) (Aft.close h41 k)
        · rw [if_neg h41]
          obtain ⟨i1, i2⟩ := ihI d l.tail hc.2
          cases e : I n (d + 1) l.tail with
          | out => exact ⟨fun r h => (by cases h), fun v w r h => (by cases h)⟩
          | bad r1 => exact ⟨fun r h => (by cases h; exact .opn hc.1 hc.2 h41 (i1 _ e)), fun v w r h => (by cases h)⟩
          | ok ps r1 => exact ⟨fun r h => (by cases h), fun v w r h res k => (by cases h; exact .opn hc.1 hc.2 h41 (i2 _ _ e res k))⟩
      · rw [if_neg hc]
        by_cases h40 : l.head? = some 40
        · have h12 : d = 12 := by
            have : ¬ d < 12 := fun z => hc ⟨h40, z⟩
            omega
          subst h12
          obtain ⟨q, rfl⟩ : ∃ q, l = 40 :: q := by
            cases l with
            | nil => cases h40
            | cons c q => cases h40; exact ⟨q, rfl⟩
          rw [atom_40]
          exact ⟨fun r h => (by cases h; exact .deep rfl), fun v w r h => (by cases h)⟩
        · exact ⟨fun r h => .bad h40 h, fun v w r h res k => LawR.aft (.inr ⟨h40, ⟨v, w, h⟩, rfl⟩) k⟩
    · rw [I_succ]
      unfold stepI
      obtain ⟨v1, v2⟩ := ihV (d + 1) l (by omega)
      cases e : V n (d + 1) l with
      | out => exact ⟨fun r h => (by cases h), fun ps r h => (by cases h)⟩
      | bad r1 => exact ⟨fun r h => (by cases h; exact v1 _ e), fun ps r h => (by cases h)⟩
      | ok v w r1 =>
        dsimp only
        by_cases h41 : r1.head? = some 41
        · rw [if_pos h41]
          exact ⟨fun r h => (by cases h), fun ps r h res k => (by cases h; exact v2 _ _ _ e res (Aft.close h41 k))⟩
        rw [if_neg h41]
        by_cases h32 : r1.head? = some 32
        · rw [if_pos h32]
          obtain ⟨i1, i2⟩ := ihI d r1.tail hd
          cases e2 : I n (d + 1) r1.tail with
          | out => exact ⟨fun r h => (by cases h), fun ps r h => (by cases h)⟩
          | bad r2 => exact ⟨fun r h => (by cases h; exact v2 _ _ _ e _ (Aft.go h32 (i1 _ e2))), fun ps r h => (by cases h)⟩
          | ok ps r2 => exact ⟨fun r h => (by cases h), fun ps r h res k => (by cases h; exact v2 _ _ _ e res (Aft.go h32 (i2 _ _ e2 res k)))⟩
        · rw [if_neg h32]
          exact ⟨fun r h => (by cases h; exact v2 _ _ _ e _ (Aft.stay h41 h32)), fun ps r h => (by cases h)⟩
end RDT

namespace K73
open PySem DL TOK NTN RDT
local macro_rules
  | `(tactic| trivial) => `(tactic| repeat' with_reducible first
    | refine DL.w_pure ?_ | refine DL.w_dq ?_ | refine DL.w_imR ?_ | refine DL.w_imD ?_ | refine DL.w_fl ?_ | refine DL.w_bin ?_ | refine DL.w_cmp ?_ | refine DL.w_rev ?_ | refine DL.w_cat ?_ | refine DL.w_chain ?_ | refine DL.w_dtB ?_ | refine DL.w_dtru ?_
    | refine DL.w_frzI (by with_unfolding_all rfl) ?_ | refine DL.w_vwI (by with_unfolding_all rfl) ?_ | refine DL.w_owO (by with_unfolding_all rfl) ?_ | refine DL.w_varI (by with_unfolding_all rfl) ?_ | refine DL.w_varL (by with_unfolding_all rfl) ?_ | refine DL.w_varT (by with_unfolding_all rfl) ?_
    | refine DL.w_vwO (by with_unfolding_all rfl) ?_ | (refine DL.w_frzO (by with_unfolding_all rfl) ?_; simp only [List.set_cons_succ, List.set_cons_zero, DL.O.flat])
    | refine DL.w_dcons ?_ | refine DL.w_dconsV ?_ | refine DL.w_darcons ?_ | (refine DL.w_dtup ?_) | refine DL.w_dlst ?_ | refine DL.w_dixO ?_ | refine DL.w_sq ?_ | refine DL.w_dixX ?_ | refine DL.w_listX ?_ | refine DL.w_sorted ?_ | refine DL.w_un ?_ | refine DL.w_sqC ?_ | refine DL.w_forC ?_ | refine DL.op_fldI (by with_unfolding_all rfl) ?_ | refine DL.w_rg ?_ | refine DL.w_rvO ?_ | refine DL.w_dslice ?_ | refine DL.w_dtmc ?_ | refine DL.w_dtupN ?_ | refine DL.w_dlist ?_ | refine DL.w_dtuple ?_ | refine DL.w_tupV ?_ | refine DL.w_listV ?_
    | refine DL.w_bind ?_ | refine DL.w_lift ?_ | refine DL.w_frz ?_ | refine DL.w_vw ?_ | refine DL.w_ow ?_
    | refine DL.w_dand ?_ | refine DL.w_dor ?_ | refine DL.w_dnot ?_ | refine DL.w_dandV ?_ | refine DL.w_dorV ?_ | refine DL.w_dnotV ?_ | refine DL.w_dif ?_
    | refine DL.frzP_im ?_ | refine DL.frzP_new ?_ | refine DL.vwP_im ?_ | refine DL.vwP_new ?_ | refine DL.vwP_bor ?_ | refine DL.owP_im ?_ | refine DL.owP_new ?_ | refine DL.owP_bor ?_
    | (refine DL.setP_im (by with_unfolding_all first | rfl | exact DL.fo_free rfl) ?_; simp only [List.set_cons_succ, List.set_cons_zero, DL.O.flat]) | (refine DL.setP_new (by with_unfolding_all first | rfl | exact DL.fo_free rfl) ?_; simp only [List.set_cons_succ, List.set_cons_zero, DL.O.flat])
    | refine DL.argP_im ?_ | refine DL.argP_new ?_ | refine DL.argP_bor ?_ | refine DL.rvP_im ?_ | refine DL.rvP_new ?_ | refine DL.mvP_im ?_ | refine DL.mvP_new ?_ | (refine DL.mvP_bor (by with_unfolding_all rfl) ?_; simp only [List.set_cons_succ, List.set_cons_zero]) | refine DL.itP_im ?_ | refine DL.itP_new ?_ | refine DL.tuP_lst ?_ | refine DL.blP_of ?_
    | refine DL.op_rng (by with_unfolding_all decide) ?_ | refine DL.op_rngG ?_ | refine DL.op_isiII ?_ | refine DL.op_isiIB ?_ | refine DL.op_isiTT ?_ | refine DL.op_isiLL ?_
    | refine DL.op_eq ?_ | refine DL.op_ne ?_ | refine DL.br_t ?_ | refine DL.br_f ?_ | refine DL.br_not ?_ | refine DL.br_eqT (by with_unfolding_all rfl) ?_ | refine DL.br_eqF (by with_unfolding_all rfl) ?_
    | refine DL.op_mod (by with_unfolding_all decide) ?_ | refine DL.op_div (by with_unfolding_all decide) ?_ | refine DL.op_mul (DL.mul_r (by with_unfolding_all decide)) ?_ | refine DL.op_mul (DL.mul_l (by with_unfolding_all decide)) ?_ | refine DL.op_pow (by with_unfolding_all decide) ?_
    | refine DL.w_seq ?_ | refine DL.w_next ?_ | refine DL.w_if ?_ | refine DL.w_match ?_ | refine DL.pickP_of (by with_unfolding_all decide) ?_ | refine DL.sp_t ?_ | refine DL.sp_f (by with_unfolding_all decide) ?_ | refine DL.sp_n ?_ | refine DL.w_rt ?_ | refine DL.w_set ?_ | refine DL.w_drop ?_ | refine DL.w_app (by with_unfolding_all rfl) ?_ | (refine DL.appP_of (by with_unfolding_all rfl) (by first | assumption | with_unfolding_all exact Nat.le_of_ble_eq_true rfl | (simp only [List.length_append, List.length_map, List.length_cons, List.length_nil]; omega)) ?_; simp only [List.set_cons_succ, List.set_cons_zero, DL.O.flat]) | refine DL.w_forP ?_ | refine DL.w_sforv (by with_unfolding_all rfl) (by with_unfolding_all rfl) ?_ | refine DL.w_asg ?_ | refine DL.w_forV ?_ | refine DL.sqt_if ?_ | refine DL.sqt_rt ?_ | refine DL.sqt_next ?_
    | refine DL.sz (by with_unfolding_all exact Nat.le_of_ble_eq_true rfl) ?_
    | refine DL.outI_im (by with_unfolding_all exact Nat.le_of_ble_eq_true rfl) ?_ | refine DL.outI_new (by with_unfolding_all exact Nat.le_of_ble_eq_true rfl) ?_ | refine DL.outI_bor (by with_unfolding_all exact Nat.le_of_ble_eq_true rfl) (by with_unfolding_all rfl) ?_
    | exact DL.us_next | exact DL.us_bk | exact DL.us_ct | exact DL.us_rtN | refine DL.us_seq ?_ ?_ | refine DL.us_if ?_ ?_ ?_ | refine DL.us_rt ?_ | refine DL.us_drop ?_ | refine DL.us_setI (by decide) ?_
    | exact DL.ud_pure | exact DL.ud_lift | exact DL.ud_xf | exact DL.ud_xi | exact DL.ud_var (by decide) | exact DL.ud_frz (by decide)
    | refine DL.ud_imR ?_ | refine DL.ud_vw ?_ | refine DL.ud_dtup ?_ | refine DL.ud_dlst ?_ | refine DL.ud_dcons ?_ ?_ | refine DL.ud_dconsV ?_ ?_ | refine DL.ud_dbin ?_ ?_ | refine DL.ud_dcmp ?_ ?_ | refine DL.ud_dtB ?_ | refine DL.ud_dtru ?_
    | refine DL.ud_dnot ?_ | refine DL.ud_dand ?_ ?_ | refine DL.ud_dor ?_ ?_ | refine DL.ud_dnotV ?_ | refine DL.ud_dandV ?_ ?_ | refine DL.ud_dorV ?_ ?_ | refine DL.ud_dif ?_ ?_ ?_ | refine DL.ud_imD ?_ | refine DL.ud_fl ?_ | refine DL.ud_dixO ?_ ?_ | refine DL.ud_dixX ?_ ?_ | exact DL.ud_ow (by decide) | exact DL.ud_meth0 (by decide) | (refine DL.ud_bind ?_ fun _ => ?_)
    | refine DL.w_op (by with_unfolding_all rfl) ?_ | rfl)

theorem cell_ok (ns : List Int) (k : Int) (hk : 0 ≤ k) : FI f__law_cell [.scr (ns.map D.int), .int k] (· = .im (.int (ns.getD k.toNat 0))) := by
  refine w_fi ?_
  unfold d__law_cell
  show SW _ [some (false, .im _), some (false, .im _)] _
  trivial
  refine br_dec (fun h => ?_) (fun h => ?_)
  · rw [List.length_map] at h
    trivial
    refine w_op (z := .im (.int (ns.getD k.toNat 0))) (by show (L2.atI (ns.map D.int) k).map O.im = _; rw [atI_int hk h]; rfl) ?_
    trivial
  · rw [List.length_map] at h
    trivial
    rw [List.getD_eq_getElem?_getD, List.getElem?_eq_none (by omega)]
    rfl
def Sm (m : Nat) (ns : List Int) : Prop := ns.length = m ∧ ∀ n ∈ ns, 0 ≤ n ∧ n < 1000
theorem Sm.nil : Sm 0 [] := ⟨rfl, fun n h => by cases h⟩
theorem Sm.app {m : Nat} {ns : List Int} {n : Int} (h : Sm m ns) (h0 : 0 ≤ n) (h1 : n < 1000) : Sm (m + 1) (ns ++ [n]) := ⟨by rw [List.length_append, h.1]; rfl, fun x hx => by
  rcases List.mem_append.mp hx with z | z
  · exact h.2 x z
  · rw [List.mem_singleton] at z
    subst z
    exact ⟨h0, h1⟩⟩
theorem fm (a : Int) {b : Int} (h : 0 < b) : 0 ≤ a.fmod b ∧ a.fmod b < b := ⟨Int.fmod_nonneg_of_pos a h, Int.fmod_lt_of_pos a h⟩
theorem numbers_ok (c m : Int) (h0 : 0 ≤ m) (hm : m ≤ 1000) : FI f__law_numbers [.int c, .int m] fun r => ∃ ns, r = .new (.lst (ns.map fun n => O.im (.int n))) ∧ Sm m.toNat ns := by
  refine w_fi ?_
  unfold d__law_numbers
  show SW _ [some (false, .im _), some (false, .im _), none, none, none, none, none] _
  trivial
  refine ⟨⟨h0, by omega⟩, ?_⟩
  refine sw_range (fun i e => ∃ rest ns s5 s6, e = [some (false, .im (.int c)), some (false, .im (.int m)), some (false, .im (.int (if c < 0 then -c else c))), some (false, .im (.int rest)), some (false, .lst (ns.map fun n => O.im (.int n))), fo s5, fo s6] ∧ Sm i ns) ⟨_, [], none, none, rfl, Sm.nil⟩ ?_ ?_
  · rintro i e hi ⟨rest, ns, s5, s6, rfl, hs⟩
    refine ⟨_, if_pos (fo_free rfl), ?_⟩
    simp only [List.set_cons_succ, List.set_cons_zero]
    have fin : ∀ (rest k : Int) (s6 : Option O), 0 ≤ k → k < 1000 → ∃ rest' ns' s5 s6', [some (false, O.im (D.int c)), some (false, .im (.int m)), some (false, .im (.int (if c < 0 then -c else c))), some (false, .im (.int rest)), some (false, .lst (List.map (fun n => O.im (D.int n)) ns ++ [.im (.int k)])), some (false, .im (.int i)), fo s6] =
        [some (false, .im (.int c)), some (false, .im (.int m)), some (false, .im (.int (if c < 0 then -c else c))), some (false, .im (.int rest')), some (false, .lst (ns'.map fun n => O.im (.int n))), fo s5, fo s6'] ∧ Sm (i + 1) ns' := fun rest k s6 h0 h1 => ⟨rest, ns ++ [k], some (.im (.int i)), s6, by rw [List.map_append]; rfl, hs.app h0 h1⟩
    have len : (List.map (fun n => O.im (D.int n)) ns).length < sizeLine := by
      rw [List.length_map, hs.1]
      exact Nat.lt_of_lt_of_le (show i < 1000 by omega) (by decide)
    trivial
    refine br_dec (fun h => ?_) (fun h => ?_)
    · trivial
      refine br_dec (fun h => ?_) (fun h => ?_)
      · trivial
        have := fm rest (b := 1000) (by decide)
        exact fin _ _ _ this.1 this.2
      · trivial
        have := fm ((if c < 0 then -c else c) * 48271 + ↑i * 69621 + 11) (b := 2147483647) (by decide)
        refine op_mul (mul_l (by omega)) ?_
        trivial
        exact fin _ _ (some _) (fm _ (by decide)).1 (fm _ (by decide)).2
    · trivial
      have := fm ((if c < 0 then -c else c) * 48271 + ↑i * 69621 + 11) (b := 2147483647) (by decide)
      refine op_mul (mul_l (by omega)) ?_
      trivial
      exact fin _ _ (some _) (fm _ (by decide)).1 (fm _ (by decide)).2
  · rintro e ⟨rest, ns, s5, s6, rfl, hs⟩
    trivial
    exact ⟨ns, rfl, hs⟩
theorem sz_of {n : Nat} (h : n ≤ 1000) : n < sizeLine := Nat.lt_of_le_of_lt h (by decide)
theorem op_at2 {l : List Nat} {i c : Nat} {P : O → Prop} (h : l[i]? = some c) (hz : l.length ≤ 1000000) (p : P (.im (.str (S [c])))) : OP (elemOO (.im (.str (S l))) (.int i)) P := by
  obtain ⟨hi, rfl⟩ := List.getElem?_eq_some_iff.mp h
  exact op_at hi hz p
theorem op_int {n : Nat} {P : D → Prop} (h : n < 10 ^ 60) (p : P (.int n)) : OP (intS [.str (S (TL.numL n))]) P :=
  ⟨.int n, by
    show (if (S (TL.numL n)).length ≤ 640 then (intText? (S (TL.numL n))).map D.int else none) = _
    rw [if_pos (by rw [S_len]; exact Nat.le_trans (num_len h) (by decide)), num_int h]
    rfl, p⟩
theorem op_sliceI {l : List Nat} {a b : Nat} {ai bi : Int} {P : Rv → Prop} (h : a ≤ l.length) (hz : l.length ≤ 1000000) (ha : ai = (a : Int)) (hb : bi = (b : Int)) (p : P (.im (.str (S ((l.drop a).take (b - a)))))) : OP (cutO (.im (.str (S l))) (some ai) (some bi)) P := by
  subst ha
  exact op_slice h hz hb p
theorem op_neS {l m : List Nat} {P : Bool → Prop} (h : ok l) (k : ok m) (p : P (decide (l ≠ m))) : OP (neD (.str (S l)) (.str (S m))) P := by
  obtain ⟨b, hb, q⟩ := op_eqS (P := fun b => b = decide (l = m)) h k rfl
  refine ⟨!b, ?_, ?_⟩
  · unfold neD
    rw [hb]
    rfl
  · rw [q]
    rwa [← decide_not]
theorem take_one {r : List Nat} {s : Nat} : r.take 1 = [s] ↔ r.head? = some s := by cases r <;> simp
theorem ims_map : ∀ l : List D, ims (l.map O.im) = some l
  | [] => rfl
  | d :: l => by
    show (ims (l.map O.im)).map (d :: ·) = _
    rw [ims_map l]
    rfl
theorem op_b2 {i j : Nat} {x y : D} {e : DL.Env} {P : DL.Env → Prop} (h1 : e.free i = true) (h2 : DL.Env.free (e.set i (some (false, .im x))) j = true) (p : P ((e.set i (some (false, .im x))).set j (some (false, .im y)))) : OP (bTup 2 (bCons (bName i) (bCons (bName j) bNil)) (.tup [x, y]) e) P := ⟨_, by
  show (if 2 = 2 then ((bName i x e).bind fun e' => (bName j y e').bind fun e' => some e') else none) = _
  unfold bName
  rw [if_pos rfl, if_pos h1, Option.bind_some, if_pos h2]
  rfl, p⟩
theorem op_pick {l : List D} {i : Int} {P : O → Prop} (h0 : 0 ≤ i) (h1 : i < l.length) (p : ∀ d ∈ l, P (.im d)) : OP (elemOO (O.im (O.lst (l.map O.im)).flat) (.int i)) P := by
  have hi : i.toNat < l.length := by omega
  refine ⟨.im l[i.toNat], ?_, p _ (List.getElem_mem hi)⟩
  show elemOO (.im (.lst (O.flats (l.map O.im)))) (.int i) = _
  rw [flats_im]
  show (L2.atI l i).map O.im = _
  rw [atI_nn _ _ h0, List.getElem?_eq_getElem hi]
  rfl
end K73

namespace K73
open PySem DL TOK NTN RDT
local macro_rules
  | `(tactic| trivial) => `(tactic| repeat' with_reducible first
    | refine DL.w_pure ?_ | refine DL.w_dq ?_ | refine DL.w_imR ?_ | refine DL.w_imD ?_ | refine DL.w_fl ?_ | refine DL.w_bin ?_ | refine DL.w_cmp ?_ | refine DL.w_rev ?_ | refine DL.w_cat ?_ | refine DL.w_chain ?_ | refine DL.w_dtB ?_ | refine DL.w_dtru ?_
    | refine DL.w_frzI (by with_unfolding_all rfl) ?_ | refine DL.w_vwI (by with_unfolding_all rfl) ?_ | refine DL.w_owO (by with_unfolding_all rfl) ?_ | refine DL.w_varI (by with_unfolding_all rfl) ?_ | refine DL.w_varL (by with_unfolding_all rfl) ?_ | refine DL.w_varT (by with_unfolding_all rfl) ?_
    | refine DL.w_vwO (by with_unfolding_all rfl) ?_ | (refine DL.w_frzO (by with_unfolding_all rfl) ?_; simp only [List.set_cons_succ, List.set_cons_zero, DL.O.flat])
    | refine DL.w_dcons ?_ | refine DL.w_dconsV ?_ | refine DL.w_darcons ?_ | (refine DL.w_dtup ?_) | refine DL.w_dlst ?_ | refine DL.w_dixO ?_ | refine DL.w_sq ?_ | refine DL.w_dixX ?_ | refine DL.w_listX ?_ | refine DL.w_sorted ?_ | refine DL.w_un ?_ | refine DL.w_sqC ?_ | refine DL.w_forC ?_ | refine DL.op_fldI (by with_unfolding_all rfl) ?_ | refine DL.w_rg ?_ | refine DL.w_rvO ?_ | refine DL.w_dslice ?_ | refine DL.w_dtmc ?_ | refine DL.w_dtupN ?_ | refine DL.w_dlist ?_ | refine DL.w_dtuple ?_ | refine DL.w_tupV ?_ | refine DL.w_listV ?_
    | refine DL.w_bind ?_ | refine DL.w_lift ?_ | refine DL.w_frz ?_ | refine DL.w_vw ?_ | refine DL.w_ow ?_
    | refine DL.w_dand ?_ | refine DL.w_dor ?_ | refine DL.w_dnot ?_ | refine DL.w_dandV ?_ | refine DL.w_dorV ?_ | refine DL.w_dnotV ?_ | refine DL.w_dif ?_
    | refine DL.frzP_im ?_ | refine DL.frzP_new ?_ | refine DL.vwP_im ?_ | refine DL.vwP_new ?_ | refine DL.vwP_bor ?_ | refine DL.owP_im ?_ | refine DL.owP_new ?_ | refine DL.owP_bor ?_
    | (refine DL.setP_im (by with_unfolding_all first | rfl | exact DL.fo_free rfl) ?_; simp only [List.set_cons_succ, List.set_cons_zero, DL.O.flat]) | (refine DL.setP_new (by with_unfolding_all first | rfl | exact DL.fo_free rfl) ?_; simp only [List.set_cons_succ, List.set_cons_zero, DL.O.flat])
    | refine DL.argP_im ?_ | refine DL.argP_new ?_ | refine DL.argP_bor ?_ | refine DL.rvP_im ?_ | refine DL.rvP_new ?_ | refine DL.mvP_im ?_ | refine DL.mvP_new ?_ | (refine DL.mvP_bor (by with_unfolding_all rfl) ?_; simp only [List.set_cons_succ, List.set_cons_zero]) | refine DL.itP_im ?_ | refine DL.itP_new ?_ | refine DL.tuP_lst ?_ | refine DL.blP_of ?_
    | refine DL.op_rng (by with_unfolding_all decide) ?_ | refine DL.op_rngG ?_ | refine DL.op_isiII ?_ | refine DL.op_isiIB ?_ | refine DL.op_isiTT ?_ | refine DL.op_isiLL ?_
    | refine DL.op_eq ?_ | refine DL.op_ne ?_ | refine DL.br_t ?_ | refine DL.br_f ?_ | refine DL.br_not ?_ | refine DL.br_eqT (by with_unfolding_all rfl) ?_ | refine DL.br_eqF (by with_unfolding_all rfl) ?_
    | refine DL.op_mod (by with_unfolding_all decide) ?_ | refine DL.op_div (by with_unfolding_all decide) ?_ | refine DL.op_mul (DL.mul_r (by with_unfolding_all decide)) ?_ | refine DL.op_mul (DL.mul_l (by with_unfolding_all decide)) ?_ | refine DL.op_pow (by with_unfolding_all decide) ?_
    | refine DL.w_seq ?_ | refine DL.w_next ?_ | refine DL.w_if ?_ | refine DL.w_match ?_ | refine DL.pickP_of (by with_unfolding_all decide) ?_ | refine DL.sp_t ?_ | refine DL.sp_f (by with_unfolding_all decide) ?_ | refine DL.sp_n ?_ | refine DL.w_rt ?_ | refine DL.w_set ?_ | refine DL.w_drop ?_ | refine DL.w_app (by with_unfolding_all rfl) ?_ | (refine DL.appP_of (by with_unfolding_all rfl) (by first | assumption | with_unfolding_all exact Nat.le_of_ble_eq_true rfl | (simp only [List.length_append, List.length_map, List.length_cons, List.length_nil]; omega)) ?_; simp only [List.set_cons_succ, List.set_cons_zero, DL.O.flat]) | refine DL.w_forP ?_ | refine DL.w_sforv (by with_unfolding_all rfl) (by with_unfolding_all rfl) ?_ | refine DL.w_asg ?_ | refine DL.w_forV ?_ | refine DL.sqt_if ?_ | refine DL.sqt_rt ?_ | refine DL.sqt_next ?_
    | refine DL.sz (by with_unfolding_all exact Nat.le_of_ble_eq_true rfl) ?_
    | refine DL.outI_im (by with_unfolding_all exact Nat.le_of_ble_eq_true rfl) ?_ | refine DL.outI_new (by with_unfolding_all exact Nat.le_of_ble_eq_true rfl) ?_ | refine DL.outI_bor (by with_unfolding_all exact Nat.le_of_ble_eq_true rfl) (by with_unfolding_all rfl) ?_
    | exact DL.us_next | exact DL.us_bk | exact DL.us_ct | exact DL.us_rtN | refine DL.us_seq ?_ ?_ | refine DL.us_if ?_ ?_ ?_ | refine DL.us_rt ?_ | refine DL.us_drop ?_ | refine DL.us_setI (by decide) ?_
    | exact DL.ud_pure | exact DL.ud_lift | exact DL.ud_xf | exact DL.ud_xi | exact DL.ud_var (by decide) | exact DL.ud_frz (by decide)
    | refine DL.ud_imR ?_ | refine DL.ud_vw ?_ | refine DL.ud_dtup ?_ | refine DL.ud_dlst ?_ | refine DL.ud_dcons ?_ ?_ | refine DL.ud_dconsV ?_ ?_ | refine DL.ud_dbin ?_ ?_ | refine DL.ud_dcmp ?_ ?_ | refine DL.ud_dtB ?_ | refine DL.ud_dtru ?_
    | refine DL.ud_dnot ?_ | refine DL.ud_dand ?_ ?_ | refine DL.ud_dor ?_ ?_ | refine DL.ud_dnotV ?_ | refine DL.ud_dandV ?_ ?_ | refine DL.ud_dorV ?_ ?_ | refine DL.ud_dif ?_ ?_ ?_ | refine DL.ud_imD ?_ | refine DL.ud_fl ?_ | refine DL.ud_dixO ?_ ?_ | refine DL.ud_dixX ?_ ?_ | exact DL.ud_ow (by decide) | exact DL.ud_meth0 (by decide) | (refine DL.ud_bind ?_ fun _ => ?_)
    | refine DL.w_op (by with_unfolding_all rfl) ?_ | rfl)

/-- a comprehension whose list is told inside -/
theorem w_compU {γ δ : Type} {q : Bool} {e : DL.Env} {src : Den (List D)} {bind : D → DL.Env → Option DL.Env} {elt : Den Rv} {vs : List Nat} {P : Rv → DL.Env → Prop} (g : γ → D) (E : δ → O) (Rl : γ → δ → Prop)
    (p : EW q src e fun ds e' => ∃ l : List γ, ds = l.map g ∧ (wiped e' vs = true ∧ restE e' (wipeE e' vs) vs = e') ∧ l.length ≤ sizeLine ∧ (∀ a ∈ l, OP (bind (g a) (wipeE e' vs)) fun e1 => EW q elt e1 fun rv e3 => rvP rv e3 fun o e4 => (∃ b, o = E b ∧ Rl a b) ∧ wipeE e4 vs = wipeE e' vs) ∧
      ∀ bs : List δ, bs.length = l.length → (∀ (i : Nat) a b, l[i]? = some a → bs[i]? = some b → Rl a b) → P (.new (.lst (bs.map E))) e') : EW q (dcomp src bind (dpure true) elt vs) e P := by
  obtain ⟨m, e', ds, h1, h2, l, h3⟩ := p
  exact w_compE l g E Rl ⟨m, e', ds, h1, h2, h3⟩
theorem op_strI {k : Int} {P : D → Prop} (h : k.natAbs < 10 ^ 60) (p : P (.str (S (tx k)))) : OP (strD [.int k]) P :=
  ⟨.str (S (tx k)), by
    have hl : k.natAbs.log2 < 1920 := by
      by_cases h0 : k.natAbs = 0
      · rw [h0]; decide
      · exact (Nat.log2_lt h0).mpr (Nat.lt_of_lt_of_le h (by decide))
    show (if k.natAbs.log2 < 1920 then some (D.str (Str.ofString (toString k))) else none) = _
    rw [if_pos hl, tx_str], p⟩
theorem op_cat {l m : List Nat} {P : D → Prop} (h : l.length + m.length ≤ 1000000) (p : P (.str (S (l ++ m)))) : OP (addD (.str (S l)) (.str (S m))) P :=
  ⟨_, by
    show (if (S l).length + (S m).length ≤ sizeLine then some (D.str (S l ++ S m)) else none) = _
    rw [S_len, S_len, if_pos (Nat.le_trans h (by decide)), S_app], p⟩
theorem tx_nat (n : Nat) : tx (n : Int) = TL.numL n := by
  unfold tx
  rw [if_neg (by omega)]
  rfl
theorem _law_written_leaf {rec : FDen} {d : D} {w : List Nat} (h : leafW d w) : FI (fnden 2 (d__law_written rec)) [d] (· = .im (.str (S w))) := by
  refine w_fi ?_
  unfold d__law_written
  show SW _ [some (false, .im _), none] _
  rcases h with ⟨b, rfl, rfl⟩ | ⟨k, rfl, hk, rfl⟩ | ⟨l, rfl, hl, hn, rfl⟩
  · cases b
    · trivial
      exact congrArg (fun z => FRv.im (D.str z)) (by decide +kernel : Str.ofString "F" = S [70])
    · trivial
      exact congrArg (fun z => FRv.im (D.str z)) (by decide +kernel : Str.ofString "T" = S [84])
  · trivial
    refine op_strI hk ?_
    trivial
  · trivial
    refine op_lenS (by omega) ?_
    trivial
    refine op_strI (k := (l.length : Int)) (Nat.lt_of_le_of_lt hn (by decide)) ?_
    rw [tx_nat]
    trivial
    have hl4 : (TL.numL l.length).length ≤ 4 := TL.numL_len (by decide) (by omega)
    refine op_cat (m := [58]) (by rw [List.length_singleton]; omega) ?_
    trivial
    refine op_cat (by rw [List.length_append, List.length_singleton]; omega) ?_
    trivial
    rw [List.append_assoc]
    rfl
theorem _law_written_tup {rec : FDen} {ps : List (D × List Nat)} (h : ∀ p ∈ ps, FI rec [p.1] (· = .im (.str (S p.2)))) (hz : (TL.joinL [32] (ps.map (·.2))).length ≤ 900000) : FI (fnden 2 (d__law_written rec)) [.tup (ps.map (·.1))] (· = .im (.str (S (40 :: (TL.joinL [32] (ps.map (·.2)) ++ [41]))))) := by
  refine w_fi ?_
  unfold d__law_written
  show SW _ [some (false, .im _), none] _
  trivial
  refine w_join (a := Str.ofString " ") ?_
  trivial
  refine ⟨rfl, ?_⟩
  trivial
  refine w_compU (fun p : D × List Nat => p.1) (fun w : List Nat => O.im (.str (S w))) (fun p w => w = p.2) ?_
  trivial
  refine ⟨ps, rfl, ⟨rfl, rfl⟩, Nat.le_trans (m := 1000000) (by have := joinL_sum (s := 32) (ps.map (·.2)); rw [List.length_map] at this; omega) (by decide), ?_, ?_⟩
  · intro p hp
    refine ⟨_, rfl, ?_⟩
    trivial
    refine w_callI (ds := [p.1]) (h p hp) rfl ?_
    trivial
    exact ⟨⟨p.2, rfl, rfl⟩, rfl⟩
  · intro bs hb hR
    have e : bs = ps.map (·.2) := by
      refine List.ext_getElem? fun i => ?_
      by_cases hi : i < ps.length
      · rw [List.getElem?_map, List.getElem?_eq_getElem hi, List.getElem?_eq_getElem (by omega)]
        exact congrArg some (hR i _ _ (List.getElem?_eq_getElem hi) (List.getElem?_eq_getElem (by omega)))
      · rw [List.getElem?_eq_none (by omega), List.getElem?_eq_none (by rw [List.length_map]; omega)]
    subst e
    trivial
    rw [flat_map]
    refine op_join (g := S) (l := ps.map (·.2)) ?_ ?_
    · have := joinL_sum (s := 32) (ps.map (·.2))
      rw [List.map_map, show (fun x : Str => x.length) ∘ S = List.length from funext S_len, show (Str.ofString " ").length = 1 by decide +kernel, List.length_map]
      rw [List.length_map] at this
      have this : (List.map List.length (ps.map (·.2))).sum + ps.length ≤ _ := this
      omega
    rw [join_S]
    trivial
    refine op_cat (l := [40]) (by rw [List.length_singleton]; omega) ?_
    trivial
    refine op_cat (m := [41]) (by rw [List.length_singleton, List.length_append, List.length_singleton]; omega) ?_
    trivial
    rfl
theorem _law_written_ok : ∀ (n : Nat) {d : D} {w : List Nat}, Wr n d w → w.length ≤ 900000 → (∀ j, n < j → FI (f__law_written j) [d] (· = .im (.str (S w))))
  | 0, d, w, h, hz => fun j hj => by
    obtain ⟨j, rfl⟩ : ∃ i, j = i + 1 := ⟨j - 1, by omega⟩
    exact _law_written_leaf h
  | n + 1, d, w, h, hz => fun j hj => by
    obtain ⟨j, rfl⟩ : ∃ i, j = i + 1 := ⟨j - 1, by omega⟩
    rcases h with h | ⟨ps, rfl, rfl, h⟩
    · exact _law_written_leaf h
    · rw [List.length_cons, List.length_append, List.length_singleton] at hz
      exact _law_written_tup (fun p hp => _law_written_ok n (h p hp) (by have := mem_joinL (s := 32) (List.mem_map_of_mem (f := (·.2)) hp); omega) j (by omega)) (by omega)
end K73

namespace K73
open PySem DL TOK NTN RDT
local macro_rules
  | `(tactic| trivial) => `(tactic| repeat' with_reducible first
    | refine DL.w_pure ?_ | refine DL.w_dq ?_ | refine DL.w_imR ?_ | refine DL.w_imD ?_ | refine DL.w_fl ?_ | refine DL.w_bin ?_ | refine DL.w_cmp ?_ | refine DL.w_rev ?_ | refine DL.w_cat ?_ | refine DL.w_chain ?_ | refine DL.w_dtB ?_ | refine DL.w_dtru ?_
    | refine DL.w_frzI (by with_unfolding_all rfl) ?_ | refine DL.w_vwI (by with_unfolding_all rfl) ?_ | refine DL.w_owO (by with_unfolding_all rfl) ?_ | refine DL.w_varI (by with_unfolding_all rfl) ?_ | refine DL.w_varL (by with_unfolding_all rfl) ?_ | refine DL.w_varT (by with_unfolding_all rfl) ?_
    | refine DL.w_vwO (by with_unfolding_all rfl) ?_ | (refine DL.w_frzO (by with_unfolding_all rfl) ?_; simp only [List.set_cons_succ, List.set_cons_zero, DL.O.flat])
    | refine DL.w_dcons ?_ | refine DL.w_dconsV ?_ | refine DL.w_darcons ?_ | (refine DL.w_dtup ?_) | refine DL.w_dlst ?_ | refine DL.w_dixO ?_ | refine DL.w_sq ?_ | refine DL.w_dixX ?_ | refine DL.w_listX ?_ | refine DL.w_sorted ?_ | refine DL.w_un ?_ | refine DL.w_sqC ?_ | refine DL.w_forC ?_ | refine DL.op_fldI (by with_unfolding_all rfl) ?_ | refine DL.w_rg ?_ | refine DL.w_rvO ?_ | refine DL.w_dslice ?_ | refine DL.w_dtmc ?_ | refine DL.w_dtupN ?_ | refine DL.w_dlist ?_ | refine DL.w_dtuple ?_ | refine DL.w_tupV ?_ | refine DL.w_listV ?_
    | refine DL.w_bind ?_ | refine DL.w_lift ?_ | refine DL.w_frz ?_ | refine DL.w_vw ?_ | refine DL.w_ow ?_
    | refine DL.w_dand ?_ | refine DL.w_dor ?_ | refine DL.w_dnot ?_ | refine DL.w_dandV ?_ | refine DL.w_dorV ?_ | refine DL.w_dnotV ?_ | refine DL.w_dif ?_
    | refine DL.frzP_im ?_ | refine DL.frzP_new ?_ | refine DL.vwP_im ?_ | refine DL.vwP_new ?_ | refine DL.vwP_bor ?_ | refine DL.owP_im ?_ | refine DL.owP_new ?_ | refine DL.owP_bor ?_
    | (refine DL.setP_im (by with_unfolding_all first | rfl | exact DL.fo_free rfl) ?_; simp only [List.set_cons_succ, List.set_cons_zero, DL.O.flat]) | (refine DL.setP_new (by with_unfolding_all first | rfl | exact DL.fo_free rfl) ?_; simp only [List.set_cons_succ, List.set_cons_zero, DL.O.flat])
    | refine DL.argP_im ?_ | refine DL.argP_new ?_ | refine DL.argP_bor ?_ | refine DL.rvP_im ?_ | refine DL.rvP_new ?_ | refine DL.mvP_im ?_ | refine DL.mvP_new ?_ | (refine DL.mvP_bor (by with_unfolding_all rfl) ?_; simp only [List.set_cons_succ, List.set_cons_zero]) | refine DL.itP_im ?_ | refine DL.itP_new ?_ | refine DL.tuP_lst ?_ | refine DL.blP_of ?_
    | refine DL.op_rng (by with_unfolding_all decide) ?_ | refine DL.op_rngG ?_ | refine DL.op_isiII ?_ | refine DL.op_isiIB ?_ | refine DL.op_isiTT ?_ | refine DL.op_isiLL ?_
    | refine DL.op_eq ?_ | refine DL.op_ne ?_ | refine DL.br_t ?_ | refine DL.br_f ?_ | refine DL.br_not ?_ | refine DL.br_eqT (by with_unfolding_all rfl) ?_ | refine DL.br_eqF (by with_unfolding_all rfl) ?_
    | refine DL.op_mod (by with_unfolding_all decide) ?_ | refine DL.op_div (by with_unfolding_all decide) ?_ | refine DL.op_mul (DL.mul_r (by with_unfolding_all decide)) ?_ | refine DL.op_mul (DL.mul_l (by with_unfolding_all decide)) ?_ | refine DL.op_pow (by with_unfolding_all decide) ?_
    | refine DL.w_seq ?_ | refine DL.w_next ?_ | refine DL.w_if ?_ | refine DL.w_match ?_ | refine DL.pickP_of (by with_unfolding_all decide) ?_ | refine DL.sp_t ?_ | refine DL.sp_f (by with_unfolding_all decide) ?_ | refine DL.sp_n ?_ | refine DL.w_rt ?_ | refine DL.w_set ?_ | refine DL.w_drop ?_ | refine DL.w_app (by with_unfolding_all rfl) ?_ | (refine DL.appP_of (by with_unfolding_all rfl) (by first | assumption | with_unfolding_all exact Nat.le_of_ble_eq_true rfl | (simp only [List.length_append, List.length_map, List.length_cons, List.length_nil]; omega)) ?_; simp only [List.set_cons_succ, List.set_cons_zero, DL.O.flat]) | refine DL.w_forP ?_ | refine DL.w_sforv (by with_unfolding_all rfl) (by with_unfolding_all rfl) ?_ | refine DL.w_asg ?_ | refine DL.w_forV ?_ | refine DL.sqt_if ?_ | refine DL.sqt_rt ?_ | refine DL.sqt_next ?_
    | refine DL.sz (by with_unfolding_all exact Nat.le_of_ble_eq_true rfl) ?_
    | refine DL.outI_im (by with_unfolding_all exact Nat.le_of_ble_eq_true rfl) ?_ | refine DL.outI_new (by with_unfolding_all exact Nat.le_of_ble_eq_true rfl) ?_ | refine DL.outI_bor (by with_unfolding_all exact Nat.le_of_ble_eq_true rfl) (by with_unfolding_all rfl) ?_
    | exact DL.us_next | exact DL.us_bk | exact DL.us_ct | exact DL.us_rtN | refine DL.us_seq ?_ ?_ | refine DL.us_if ?_ ?_ ?_ | refine DL.us_rt ?_ | refine DL.us_drop ?_ | refine DL.us_setI (by decide) ?_
    | exact DL.ud_pure | exact DL.ud_lift | exact DL.ud_xf | exact DL.ud_xi | exact DL.ud_var (by decide) | exact DL.ud_frz (by decide)
    | refine DL.ud_imR ?_ | refine DL.ud_vw ?_ | refine DL.ud_dtup ?_ | refine DL.ud_dlst ?_ | refine DL.ud_dcons ?_ ?_ | refine DL.ud_dconsV ?_ ?_ | refine DL.ud_dbin ?_ ?_ | refine DL.ud_dcmp ?_ ?_ | refine DL.ud_dtB ?_ | refine DL.ud_dtru ?_
    | refine DL.ud_dnot ?_ | refine DL.ud_dand ?_ ?_ | refine DL.ud_dor ?_ ?_ | refine DL.ud_dnotV ?_ | refine DL.ud_dandV ?_ ?_ | refine DL.ud_dorV ?_ ?_ | refine DL.ud_dif ?_ ?_ ?_ | refine DL.ud_imD ?_ | refine DL.ud_fl ?_ | refine DL.ud_dixO ?_ ?_ | refine DL.ud_dixX ?_ ?_ | exact DL.ud_ow (by decide) | exact DL.ud_meth0 (by decide) | (refine DL.ud_bind ?_ fun _ => ?_)
    | refine DL.w_op (by with_unfolding_all rfl) ?_ | rfl)

theorem Sm.at {m : Nat} {ns : List Int} (h : Sm m ns) (i : Int) (h0 : 0 ≤ i) (h1 : i < m) : ∃ n, L2.atI (ns.map D.int) i = some (.int n) ∧ 0 ≤ n ∧ n < 1000 := by
  have hl : i < ns.length := by rw [h.1]; exact h1
  refine ⟨ns.getD i.toNat 0, atI_int h0 hl, ?_⟩
  rw [List.getD_eq_getElem?_getD, List.getElem?_eq_getElem (by omega)]
  exact h.2 _ (List.getElem_mem _)
theorem op_sm {m : Nat} {ns : List Int} {i : Int} {P : O → Prop} (h : Sm m ns) (h0 : 0 ≤ i) (h1 : i < m) (p : ∀ n, 0 ≤ n → n < 1000 → P (.im (.int n))) : OP (elemOO (.im (.lst (ns.map D.int))) (.int i)) P := by
  obtain ⟨n, k1, k2, k3⟩ := h.at i h0 h1
  exact ⟨.im (.int n), by show (L2.atI _ _).map O.im = _; rw [k1]; rfl, p n k2 k3⟩
theorem big_two : 2 ^ mostBits + 124 < 2 ^ (mostBits + 1) := by
  have h : 2 ^ 7 ≤ 2 ^ mostBits := Nat.pow_le_pow_right (by decide) (by decide)
  rw [Nat.pow_succ]
  generalize 2 ^ mostBits = z at h ⊢
  omega
theorem integer_ok (cell n : Int) (hc : cell.natAbs < 2 ^ mostBits) (h0 : 0 ≤ n) (h1 : n < 1000) : FI f__law_integer [.int cell, .int n] fun r => ∃ k : Int, r = .im (.int k) ∧ k.natAbs < 10 ^ 60 := by
  have f8 : 0 ≤ n.fdiv 8 ∧ n.fdiv 8 ≤ 124 := by rw [Int.fdiv_eq_ediv_of_nonneg n (by omega)]; omega
  have hbig : ((if cell < 0 then -cell else cell) + n.fdiv 8).natAbs < 2 ^ (mostBits + 1) := by
    refine Nat.lt_of_le_of_lt ?_ big_two
    generalize 2 ^ mostBits = z at hc
    split <;> omega
  refine w_fi ?_
  unfold d__law_integer
  show SW _ [some (false, .im _), some (false, .im _), none, none] _
  refine w_seqM (fun e => e = [some (false, .im (.int cell)), some (false, .im (.int n)), some (false, .im (.int (n.fdiv 8))), none]) ?_ ?_
  · trivial
  rintro e rfl
  refine w_seqM (fun e => e = [some (false, .im (.int cell)), some (false, .im (.int n)), some (false, .im (.int (n.fdiv 8))), none]) ?_ ?_
  · trivial
    refine br_dec (fun h => ?_) (fun h => ?_)
    · trivial
      refine ⟨_, rfl, Nat.lt_of_le_of_lt (show _ ≤ 1000 by omega) (by decide)⟩
    · trivial
  rintro e rfl
  refine w_seqM (fun e => ∃ g : Int, e = [some (false, .im (.int cell)), some (false, .im (.int n)), some (false, .im (.int (n.fdiv 8))), some (false, .im (.int g))] ∧ 0 ≤ g ∧ g < 10 ^ 60) ?_ ?_
  · trivial
    have f4 := fm ((n.fdiv 8).fdiv 3) (b := 4) (by decide)
    refine op_pick f4.1 f4.2 fun d hd => ?_
    obtain ⟨z, rfl, hz⟩ : ∃ z : Int, d = .int z ∧ z.natAbs < 2 ^ 200 := by
      simp only [List.mem_cons, List.not_mem_nil, or_false] at hd
      rcases hd with rfl | rfl | rfl | rfl
      · exact ⟨_, rfl, by decide⟩
      · exact ⟨_, rfl, by decide⟩
      · exact ⟨_, rfl, by decide⟩
      · exact ⟨_, rfl, by decide⟩
    trivial
    refine op_mulXD hbig hz (by decide) ?_
    trivial
    have f := fm (((if cell < 0 then -cell else cell) + n.fdiv 8) * z) (b := 10 ^ Int.toNat 60) (by decide)
    exact ⟨_, rfl, f.1, f.2⟩
  rintro e ⟨g, rfl, g0, g1⟩
  refine w_seqM (fun e => ∃ g : Int, e = [some (false, .im (.int cell)), some (false, .im (.int n)), some (false, .im (.int (n.fdiv 8))), some (false, .im (.int g))] ∧ 0 ≤ g ∧ g < 10 ^ 60) ?_ ?_
  · trivial
    refine br_dec (fun h => ?_) (fun h => ?_)
    · trivial
      have e60 : (10 : Int) ^ Int.toNat 60 = 10 ^ 60 := rfl
      refine ⟨_, rfl, ?_, ?_⟩
      · omega
      · omega
    · trivial
      exact ⟨_, rfl, g0, g1⟩
  rintro e ⟨g, rfl, g0, g1⟩
  have gl : g.natAbs < 10 ^ 60 := by omega
  trivial
  refine br_dec (fun h => ?_) (fun h => ?_)
  · trivial
    exact ⟨_, rfl, by rw [Int.natAbs_neg]; exact gl⟩
  · trivial
    exact ⟨_, rfl, gl⟩
def chOk2 (i : Nat) : Bool := match elemOO (.im (.str (Str.ofString " !\"#$&'()*+,-./0123456789:;<=>?@ABCDEFGHIJKLMNOPQRSTUVWXYZ[\\]^_`" ++ Str.ofString "abcdefghijklmnopqrstuvwxyz{|}~"))) (.int (i : Int)) with
  | some (.im (.str z)) => z.cps.all (· < 128) && z.cps.size == 1
  | _ => false
theorem chL2_ok : ∀ i : Fin 94, chOk2 i.val = true := by decide +kernel
theorem one_sign {z : Str} (h : (z.cps.all (· < 128) && z.cps.size == 1) = true) : ∃ c, z = S [c] ∧ c < 128 := by
  rw [Bool.and_eq_true, beq_iff_eq] at h
  obtain ⟨h1, h2⟩ := h
  have h3 := Array.all_eq_true.mp h1 0 (by omega)
  refine ⟨z.cps[0], ?_, of_decide_eq_true h3⟩
  obtain ⟨l⟩ := z
  show (⟨l⟩ : Str) = ⟨#[l[0]'(by rw [show l.size = 1 from h2]; omega)]⟩
  congr 1
  refine Array.ext h2 fun i i1 i2 => ?_
  have : i = 0 := by
    have : i < 1 := by rw [← h2]; exact i1
    omega
  subst this
  rfl
theorem char_ok (n : Int) : FI f__law_char [.int n] fun r => ∃ c, r = .im (.str (S [c])) ∧ c < 128 := by
  refine w_fi ?_
  unfold d__law_char
  show SW _ [some (false, .im _), none] _
  refine w_seqM (fun e => e = [some (false, .im (.int n)), some (false, .im (.str (Str.ofString " !\"#$&'()*+,-./0123456789:;<=>?@ABCDEFGHIJKLMNOPQRSTUVWXYZ[\\]^_`")))]) ?_ ?_
  · trivial
  rintro e rfl
  refine w_seqM (fun e => e = [some (false, .im (.int n)), some (false, .im (.str (Str.ofString " !\"#$&'()*+,-./0123456789:;<=>?@ABCDEFGHIJKLMNOPQRSTUVWXYZ[\\]^_`" ++ Str.ofString "abcdefghijklmnopqrstuvwxyz{|}~")))]) ?_ ?_
  · trivial
  rintro e rfl
  trivial
  have f := fm n (b := 94) (by decide)
  obtain ⟨i, hi, hlt⟩ : ∃ i : Nat, n.fmod 94 = i ∧ i < 94 := ⟨(n.fmod 94).toNat, by omega, by omega⟩
  rw [hi]
  have key := chL2_ok ⟨i, hlt⟩
  unfold chOk2 at key
  split at key
  · rename_i z hz
    obtain ⟨c, rfl, hc⟩ := one_sign key
    refine ⟨_, hz, ?_⟩
    trivial
    exact ⟨c, rfl, hc⟩
  · cases key
def ch8 (i : Nat) : Bool := match elemOO (.im (.str (Str.ofString "():0 T-1"))) (.int (i : Int)) with
  | some (.im (.str z)) => z.cps.all (· < 128) && z.cps.size == 1
  | _ => false
theorem ch8_ok : ∀ i : Fin 8, ch8 i.val = true := by decide +kernel
theorem op_ch8 {m : Int} {P : O → Prop} (p : ∀ c, c < 128 → P (.im (.str (S [c])))) : OP (elemOO (.im (.str (Str.ofString "():0 T-1"))) (.int (m.fmod 8))) P := by
  have f := fm m (b := 8) (by decide)
  obtain ⟨i, hi, hlt⟩ : ∃ i : Nat, m.fmod 8 = i ∧ i < 8 := ⟨(m.fmod 8).toNat, by omega, by omega⟩
  rw [hi]
  have key := ch8_ok ⟨i, hlt⟩
  unfold ch8 at key
  split at key
  · rename_i z hz
    obtain ⟨c, rfl, hc⟩ := one_sign key
    exact ⟨_, hz, p c hc⟩
  · cases key
theorem flat_one : ∀ bs : List Nat, (bs.map fun c => [c]).flatten = bs
  | [] => rfl
  | b :: bs => by rw [List.map_cons, List.flatten_cons, flat_one bs]; rfl
theorem join_one {bs : List Nat} : Txt.join (Str.ofString "") (bs.map fun c => S [c]) = S bs := by
  have e : (bs.map fun c => S [c]) = (bs.map fun c => [c]).map S := by rw [List.map_map]; rfl
  rw [e, join_S0, flat_one]
theorem text_ok (n size : Int) (h0 : 0 ≤ size) (h1 : size ≤ 1000) : FI f__law_text [.int n, .int size] fun r => ∃ l, r = .im (.str (S l)) ∧ ok l ∧ l.length ≤ 1000 := by
  have fin : ∀ (bs : List Nat), bs.length = size.toNat → (∀ (i : Nat) a b, (List.range size.toNat)[i]? = some a → bs[i]? = some b → b < 128) → ok bs ∧ bs.length ≤ 1000 := by
    intro bs hb hR
    refine ⟨fun c hc => ?_, by omega⟩
    obtain ⟨j, hj, rfl⟩ := List.mem_iff_getElem.mp hc
    exact hR j j _ (by rw [List.getElem?_range (by omega)]) (List.getElem?_eq_getElem hj)
  have op : ∀ {P : D → Prop} (bs : List Nat), bs.length = size.toNat → P (.str (S bs)) → OP (joinS (Str.ofString "") (.lst (bs.map fun c => D.str (S [c])))) P := by
    intro P bs hb p
    refine op_join (g := fun c => S [c]) (l := bs) ?_ ?_
    · have e : ((bs.map fun c => S [c]).map fun x : Str => x.length).sum = bs.length := by
        clear hb p
        induction bs with
        | nil => rfl
        | cons b bs ih => rw [List.map_cons, List.map_cons, List.sum_cons, ih, S_len]; show 1 + bs.length = bs.length + 1; omega
      rw [e, show (Str.ofString "").length = 0 by decide +kernel, hb]
      omega
    · rw [join_one]
      exact p
  refine w_fi ?_
  unfold d__law_text
  show SW _ [some (false, .im _), some (false, .im _), none] _
  trivial
  refine br_dec (fun h => ?_) (fun h => ?_)
  · trivial
    refine w_join (a := Str.ofString "") ?_
    trivial
    refine ⟨rfl, ?_⟩
    trivial
    refine w_compU (fun (i : Nat) => D.int (i : Int)) (fun c : Nat => O.im (.str (S [c]))) (fun _ c => c < 128) ?_
    trivial
    refine ⟨⟨h0, by omega⟩, List.range size.toNat, rangeD_map _, ⟨rfl, rfl⟩, Nat.le_of_lt (sz_of (by rw [List.length_range]; omega)), ?_, ?_⟩
    · intro i hi
      have hi : i < 1000 := by have := List.mem_range.mp hi; omega
      refine ⟨_, rfl, ?_⟩
      trivial
      refine op_mul (mul_l (by omega)) ?_
      trivial
      refine op_ch8 fun c hc => ?_
      trivial
      exact ⟨⟨c, rfl, hc⟩, rfl⟩
    · intro bs hb hR
      rw [List.length_range] at hb
      trivial
      rw [flat_map]
      refine op bs hb ?_
      trivial
      exact ⟨bs, rfl, fin bs hb hR⟩
  · trivial
    refine w_join (a := Str.ofString "") ?_
    trivial
    refine ⟨rfl, ?_⟩
    trivial
    refine w_compU (fun (i : Nat) => D.int (i : Int)) (fun c : Nat => O.im (.str (S [c]))) (fun _ c => c < 128) ?_
    trivial
    refine ⟨⟨h0, by omega⟩, List.range size.toNat, rangeD_map _, ⟨rfl, rfl⟩, Nat.le_of_lt (sz_of (by rw [List.length_range]; omega)), ?_, ?_⟩
    · intro i hi
      have hi : i < 1000 := by have := List.mem_range.mp hi; omega
      refine ⟨_, rfl, ?_⟩
      trivial
      refine op_mul (mul_l (by omega)) ?_
      trivial
      refine w_call (ds := [.int _]) (char_ok _) rfl ?_
      rintro v ⟨c, rfl, hc⟩
      dsimp only [rvF]
      trivial
      exact ⟨⟨c, rfl, hc⟩, rfl⟩
    · intro bs hb hR
      rw [List.length_range] at hb
      trivial
      rw [flat_map]
      refine op bs hb ?_
      trivial
      exact ⟨bs, rfl, fin bs hb hR⟩
end K73

namespace K73
open PySem DL TOK NTN RDT
local macro_rules
  | `(tactic| trivial) => `(tactic| repeat' with_reducible first
    | refine DL.w_pure ?_ | refine DL.w_dq ?_ | refine DL.w_imR ?_ | refine DL.w_imD ?_ | refine DL.w_fl ?_ | refine DL.w_bin ?_ | refine DL.w_cmp ?_ | refine DL.w_rev ?_ | refine DL.w_cat ?_ | refine DL.w_chain ?_ | refine DL.w_dtB ?_ | refine DL.w_dtru ?_
    | refine DL.w_frzI (by with_unfolding_all rfl) ?_ | refine DL.w_vwI (by with_unfolding_all rfl) ?_ | refine DL.w_owO (by with_unfolding_all rfl) ?_ | refine DL.w_varI (by with_unfolding_all rfl) ?_ | refine DL.w_varL (by with_unfolding_all rfl) ?_ | refine DL.w_varT (by with_unfolding_all rfl) ?_
    | refine DL.w_vwO (by with_unfolding_all rfl) ?_ | (refine DL.w_frzO (by with_unfolding_all rfl) ?_; simp only [List.set_cons_succ, List.set_cons_zero, DL.O.flat])
    | refine DL.w_dcons ?_ | refine DL.w_dconsV ?_ | refine DL.w_darcons ?_ | (refine DL.w_dtup ?_) | refine DL.w_dlst ?_ | refine DL.w_dixO ?_ | refine DL.w_sq ?_ | refine DL.w_dixX ?_ | refine DL.w_listX ?_ | refine DL.w_sorted ?_ | refine DL.w_un ?_ | refine DL.w_sqC ?_ | refine DL.w_forC ?_ | refine DL.op_fldI (by with_unfolding_all rfl) ?_ | refine DL.w_rg ?_ | refine DL.w_rvO ?_ | refine DL.w_dslice ?_ | refine DL.w_dtmc ?_ | refine DL.w_dtupN ?_ | refine DL.w_dlist ?_ | refine DL.w_dtuple ?_ | refine DL.w_tupV ?_ | refine DL.w_listV ?_
    | refine DL.w_bind ?_ | refine DL.w_lift ?_ | refine DL.w_frz ?_ | refine DL.w_vw ?_ | refine DL.w_ow ?_
    | refine DL.w_dand ?_ | refine DL.w_dor ?_ | refine DL.w_dnot ?_ | refine DL.w_dandV ?_ | refine DL.w_dorV ?_ | refine DL.w_dnotV ?_ | refine DL.w_dif ?_
    | refine DL.frzP_im ?_ | refine DL.frzP_new ?_ | refine DL.vwP_im ?_ | refine DL.vwP_new ?_ | refine DL.vwP_bor ?_ | refine DL.owP_im ?_ | refine DL.owP_new ?_ | refine DL.owP_bor ?_
    | (refine DL.setP_im (by with_unfolding_all first | rfl | exact DL.fo_free rfl) ?_; simp only [List.set_cons_succ, List.set_cons_zero, DL.O.flat]) | (refine DL.setP_new (by with_unfolding_all first | rfl | exact DL.fo_free rfl) ?_; simp only [List.set_cons_succ, List.set_cons_zero, DL.O.flat])
    | refine DL.argP_im ?_ | refine DL.argP_new ?_ | refine DL.argP_bor ?_ | refine DL.rvP_im ?_ | refine DL.rvP_new ?_ | refine DL.mvP_im ?_ | refine DL.mvP_new ?_ | (refine DL.mvP_bor (by with_unfolding_all rfl) ?_; simp only [List.set_cons_succ, List.set_cons_zero]) | refine DL.itP_im ?_ | refine DL.itP_new ?_ | refine DL.tuP_lst ?_ | refine DL.blP_of ?_
    | refine DL.op_rng (by with_unfolding_all decide) ?_ | refine DL.op_rngG ?_ | refine DL.op_isiII ?_ | refine DL.op_isiIB ?_ | refine DL.op_isiTT ?_ | refine DL.op_isiLL ?_
    | refine DL.op_eq ?_ | refine DL.op_ne ?_ | refine DL.br_t ?_ | refine DL.br_f ?_ | refine DL.br_not ?_ | refine DL.br_eqT (by with_unfolding_all rfl) ?_ | refine DL.br_eqF (by with_unfolding_all rfl) ?_
    | refine DL.op_mod (by with_unfolding_all decide) ?_ | refine DL.op_div (by with_unfolding_all decide) ?_ | refine DL.op_mul (DL.mul_r (by with_unfolding_all decide)) ?_ | refine DL.op_mul (DL.mul_l (by with_unfolding_all decide)) ?_ | refine DL.op_pow (by with_unfolding_all decide) ?_
    | refine DL.w_seq ?_ | refine DL.w_next ?_ | refine DL.w_if ?_ | refine DL.w_match ?_ | refine DL.pickP_of (by with_unfolding_all decide) ?_ | refine DL.sp_t ?_ | refine DL.sp_f (by with_unfolding_all decide) ?_ | refine DL.sp_n ?_ | refine DL.w_rt ?_ | refine DL.w_set ?_ | refine DL.w_drop ?_ | refine DL.w_app (by with_unfolding_all rfl) ?_ | (refine DL.appP_of (by with_unfolding_all rfl) (by first | assumption | with_unfolding_all exact Nat.le_of_ble_eq_true rfl | (simp only [List.length_append, List.length_map, List.length_cons, List.length_nil]; omega)) ?_; simp only [List.set_cons_succ, List.set_cons_zero, DL.O.flat]) | refine DL.w_forP ?_ | refine DL.w_sforv (by with_unfolding_all rfl) (by with_unfolding_all rfl) ?_ | refine DL.w_asg ?_ | refine DL.w_forV ?_ | refine DL.sqt_if ?_ | refine DL.sqt_rt ?_ | refine DL.sqt_next ?_
    | refine DL.sz (by with_unfolding_all exact Nat.le_of_ble_eq_true rfl) ?_
    | refine DL.outI_im (by with_unfolding_all exact Nat.le_of_ble_eq_true rfl) ?_ | refine DL.outI_new (by with_unfolding_all exact Nat.le_of_ble_eq_true rfl) ?_ | refine DL.outI_bor (by with_unfolding_all exact Nat.le_of_ble_eq_true rfl) (by with_unfolding_all rfl) ?_
    | exact DL.us_next | exact DL.us_bk | exact DL.us_ct | exact DL.us_rtN | refine DL.us_seq ?_ ?_ | refine DL.us_if ?_ ?_ ?_ | refine DL.us_rt ?_ | refine DL.us_drop ?_ | refine DL.us_setI (by decide) ?_
    | exact DL.ud_pure | exact DL.ud_lift | exact DL.ud_xf | exact DL.ud_xi | exact DL.ud_var (by decide) | exact DL.ud_frz (by decide)
    | refine DL.ud_imR ?_ | refine DL.ud_vw ?_ | refine DL.ud_dtup ?_ | refine DL.ud_dlst ?_ | refine DL.ud_dcons ?_ ?_ | refine DL.ud_dconsV ?_ ?_ | refine DL.ud_dbin ?_ ?_ | refine DL.ud_dcmp ?_ ?_ | refine DL.ud_dtB ?_ | refine DL.ud_dtru ?_
    | refine DL.ud_dnot ?_ | refine DL.ud_dand ?_ ?_ | refine DL.ud_dor ?_ ?_ | refine DL.ud_dnotV ?_ | refine DL.ud_dandV ?_ ?_ | refine DL.ud_dorV ?_ ?_ | refine DL.ud_dif ?_ ?_ ?_ | refine DL.ud_imD ?_ | refine DL.ud_fl ?_ | refine DL.ud_dixO ?_ ?_ | refine DL.ud_dixX ?_ ?_ | exact DL.ud_ow (by decide) | exact DL.ud_meth0 (by decide) | (refine DL.ud_bind ?_ fun _ => ?_)
    | refine DL.w_op (by with_unfolding_all rfl) ?_ | rfl)

theorem leaf_ok (cell n : Int) (hc : cell.natAbs < 2 ^ mostBits) (h0 : 0 ≤ n) (h1 : n < 1000) : FI f__law_leaf [.int cell, .int n] fun r => ∃ d w, r = .im d ∧ leafW d w := by
  refine w_fi ?_
  unfold d__law_leaf
  show SW _ [some (false, .im _), some (false, .im _), none, none] _
  refine w_seqM (fun e => e = [some (false, .im (.int cell)), some (false, .im (.int n)), some (false, .im (.int (n.fdiv 8))), none]) ?_ ?_
  · trivial
  rintro e rfl
  refine w_seqM (fun e => e = [some (false, .im (.int cell)), some (false, .im (.int n)), some (false, .im (.int (n.fdiv 8))), none]) ?_ ?_
  · trivial
    refine br_dec (fun h => ?_) (fun h => ?_)
    · trivial
      exact ⟨_, _, rfl, .inl ⟨_, rfl, rfl⟩⟩
    · trivial
  rintro e rfl
  refine w_seqM (fun e => e = [some (false, .im (.int cell)), some (false, .im (.int n)), some (false, .im (.int (n.fdiv 8))), none]) ?_ ?_
  · have ret : ∀ v : FRv, (∃ k : Int, v = .im (.int k) ∧ k.natAbs < 10 ^ 60) → ∃ d w, v = .im d ∧ leafW d w := by
      rintro v ⟨k, rfl, hk⟩
      exact ⟨.int k, tx k, rfl, .inr (.inl ⟨k, rfl, hk, rfl⟩)⟩
    trivial
    refine br_dec (fun h => ?_) (fun h => ?_)
    · trivial
      refine w_call (ds := [.int _, .int _]) (integer_ok cell n hc h0 h1) rfl ?_
      rintro v ⟨k, rfl, hk⟩
      dsimp only [rvF]
      trivial
      exact ret _ ⟨k, rfl, hk⟩
    trivial
    refine br_dec (fun h => ?_) (fun h => ?_)
    · trivial
      refine w_call (ds := [.int _, .int _]) (integer_ok cell n hc h0 h1) rfl ?_
      rintro v ⟨k, rfl, hk⟩
      dsimp only [rvF]
      trivial
      exact ret _ ⟨k, rfl, hk⟩
    · trivial
  rintro e rfl
  refine w_seqM (fun e => ∃ s : Int, e = [some (false, .im (.int cell)), some (false, .im (.int n)), some (false, .im (.int (n.fdiv 8))), some (false, .im (.int s))] ∧ 0 ≤ s ∧ s ≤ 1000) ?_ ?_
  · trivial
    have f := fm (n.fdiv 8) (b := 13) (by decide)
    exact ⟨_, rfl, f.1, by omega⟩
  rintro e ⟨s, rfl, s0, s1⟩
  refine w_seqM (fun e => ∃ s : Int, e = [some (false, .im (.int cell)), some (false, .im (.int n)), some (false, .im (.int (n.fdiv 8))), some (false, .im (.int s))] ∧ 0 ≤ s ∧ s ≤ 1000) ?_ ?_
  · trivial
    refine br_dec (fun h => ?_) (fun h => ?_)
    · trivial
      have f := fm ((n.fdiv 8).fdiv 9) (b := 8) (by decide)
      refine op_pick f.1 f.2 fun d hd => ?_
      obtain ⟨z, rfl, z0, z1⟩ : ∃ z : Int, d = .int z ∧ 0 ≤ z ∧ z ≤ 1000 := by
        simp only [List.mem_cons, List.not_mem_nil, or_false] at hd
        rcases hd with rfl | rfl | rfl | rfl | rfl | rfl | rfl | rfl <;> exact ⟨_, rfl, by decide, by decide⟩
      trivial
      exact ⟨_, rfl, z0, z1⟩
    · trivial
      exact ⟨_, rfl, s0, s1⟩
  rintro e ⟨s, rfl, s0, s1⟩
  trivial
  refine w_call (ds := [.int _, .int _]) (text_ok n s s0 s1) rfl ?_
  rintro v ⟨l, rfl, hl, hz⟩
  dsimp only [rvF]
  trivial
  exact ⟨_, _, rfl, .inr (.inr ⟨l, rfl, hl, hz, rfl⟩)⟩
/-- a script, or its rest -/
def ScD (sc : List Int) (d : D) : Prop := d = .scr (sc.map D.int) ∨ d = .lst (sc.map D.int)
theorem cell2_ok {sc : List Int} {d : D} (hd : ScD sc d) (k : Int) (hk : 0 ≤ k) : FI f__law_cell [d, .int k] (· = .im (.int (sc.getD k.toNat 0))) := by
  rcases hd with rfl | rfl
  · exact cell_ok sc k hk
  refine w_fi ?_
  unfold d__law_cell
  show SW _ [some (false, .im _), some (false, .im _)] _
  trivial
  refine br_dec (fun h => ?_) (fun h => ?_)
  · rw [List.length_map] at h
    trivial
    refine w_op (z := .im (.int (sc.getD k.toNat 0))) (by show (L2.atI (sc.map D.int) k).map O.im = _; rw [atI_int hk h]; rfl) ?_
    trivial
  · rw [List.length_map] at h
    trivial
    rw [List.getD_eq_getElem?_getD, List.getElem?_eq_none (by omega)]
    rfl
theorem big_get {sc : List Int} (h : ∀ z ∈ sc, z.natAbs < 2 ^ mostBits) (k : Nat) : (sc.getD k 0).natAbs < 2 ^ mostBits := by
  rw [List.getD_eq_getElem?_getD]
  cases e : sc[k]? with
  | none => exact Nat.two_pow_pos _
  | some z => exact h z (List.mem_of_getElem? e)
abbrev T3 := D × List Nat × Nat
def GoodT (i : Nat) (ts : List T3) : Prop := (∀ t ∈ ts, Wr t.2.2 t.1 t.2.1 ∧ t.2.2 ≤ 11) ∧ (ts.map fun t => t.2.1.length + 1).sum ≤ 1010 * i ∧ ts.length ≤ i
abbrev vsT (ts : List T3) : List D := ts.map (·.1)
abbrev ksT (ts : List T3) : List Int := ts.map fun t => (t.2.2 : Int)
theorem ints_map : ∀ l : List Int, intsD (l.map D.int) = some l
  | [] => rfl
  | a :: l => by
    show (intsD (l.map D.int)).map (a :: ·) = _
    rw [ints_map l]
    rfl
theorem op_maxL {a : Int} {l : List Int} {ds : List D} {P : D → Prop} (h : ds = (a :: l).map D.int) (p : P (.int (lmax a l))) : OP (maxLD [.lst ds]) P := ⟨_, by
  subst h
  unfold maxLD
  dsimp only
  rw [ints_map], p⟩
theorem op_from {l : List D} {k : Nat} {ki : Int} {P : Rv → Prop} (h : k ≤ l.length) (hk : ki = (k : Int)) (p : P (.new (.lst ((l.drop k).map O.im)))) : OP (cutO (.lst (l.map O.im)) (some ki) none) P := by
  subst hk
  refine ⟨_, ?_, p⟩
  show (ims (l.map O.im)).map _ = _
  rw [ims_map]
  show some (Rv.new (.lst ((cutD l (some (k : Int)) none).map O.im))) = _
  unfold cutD
  rw [HT.sIx_nat, HT.sIx_none, Nat.min_eq_left h, List.take_of_length_le (by rw [List.length_drop]; omega)]
theorem op_to {l : List D} {k : Nat} {ki : Int} {P : Rv → Prop} (h : k ≤ l.length) (hk : ki = (k : Int)) (p : P (.new (.lst ((l.take k).map O.im)))) : OP (cutO (.lst (l.map O.im)) none (some ki)) P := by
  subst hk
  refine ⟨_, ?_, p⟩
  show (ims (l.map O.im)).map _ = _
  rw [ims_map]
  show some (Rv.new (.lst ((cutD l none (some (k : Int))).map O.im))) = _
  unfold cutD
  rw [HT.sIx_nat, HT.sIx_none, Nat.min_eq_left h, List.drop_zero, Nat.sub_zero]
theorem op_catL {l m : List D} {P : Rv → Prop} (h : l.length + m.length ≤ 1000000) (p : P (.new (.lst ((l ++ m).map O.im)))) : OP (catV (O.im (O.lst (l.map O.im)).flat) (O.im (O.lst (m.map O.im)).flat)) P := by
  refine ⟨_, ?_, p⟩
  show (match lstV (O.im (.lst (O.flats (l.map O.im)))), lstV (O.im (.lst (O.flats (m.map O.im)))) with
    | some xs, some ys => if xs.length + ys.length ≤ sizeLine then some (Rv.new (.lst ((xs ++ ys).map O.im))) else none
    | _, _ => none) = _
  rw [flats_im, flats_im]
  exact if_pos (Nat.le_trans h (by decide))
theorem GoodT.nil : GoodT 0 [] := ⟨fun t h => (nomatch h), Nat.le_refl _, Nat.le_refl _⟩
theorem GoodT.leaf {i : Nat} {ts : List T3} {d : D} {w : List Nat} (h : GoodT i ts) (hl : leafW d w) : GoodT (i + 1) (ts ++ [(d, w, 0)]) := by
  obtain ⟨h1, h2, h3⟩ := h
  refine ⟨fun t ht => ?_, ?_, ?_⟩
  · rcases List.mem_append.mp ht with ht | ht
    · exact h1 t ht
    · rw [List.mem_singleton.mp ht]
      exact ⟨Wr.leaf hl 0, by show 0 ≤ 11; omega⟩
  · rw [List.map_append, List.sum_append]
    have := hl.len
    show _ + (w.length + 1 + 0) ≤ _
    omega
  · rw [List.length_append]
    show _ + 1 ≤ _
    omega
theorem sum_split {ts : List T3} (k : Nat) : (ts.map fun t => t.2.1.length + 1).sum = ((ts.take k).map fun t => t.2.1.length + 1).sum + ((ts.drop k).map fun t => t.2.1.length + 1).sum := by
  rw [← List.sum_append, ← List.map_append, List.take_append_drop]
/-- the tuple of the last ones -/
def pack (us : List T3) : List (D × List Nat) := us.map fun t => (t.1, t.2.1)
theorem pack_len (us : List T3) : (40 :: (TL.joinL [32] ((pack us).map (·.2)) ++ [41])).length ≤ (us.map fun t => t.2.1.length + 1).sum + 2 := by
  have h := joinL_len (s := 32) ((pack us).map (·.2))
  have e : ((pack us).map (·.2)).map (fun w => w.length + 1) = us.map fun t => t.2.1.length + 1 := by
    rw [pack, List.map_map, List.map_map]
    rfl
  rw [e] at h
  rw [List.length_cons, List.length_append, List.length_singleton]
  exact Nat.succ_le_succ (Nat.succ_le_succ h)
theorem pack_wr {us : List T3} {n : Nat} (h : ∀ t ∈ us, Wr t.2.2 t.1 t.2.1 ∧ t.2.2 ≤ n) : Wr (n + 1) (.tup (vsT us)) (40 :: (TL.joinL [32] ((pack us).map (·.2)) ++ [41])) := by
  refine .inr ⟨pack us, ?_, rfl, fun p hp => ?_⟩
  · rw [pack, List.map_map]
    rfl
  · obtain ⟨t, ht, rfl⟩ := List.mem_map.mp hp
    exact (h t ht).1.mono (h t ht).2
theorem GoodT.tup {i : Nat} {ts : List T3} (h : GoodT i ts) (k n : Nat) (hn : ∀ t ∈ ts.drop k, t.2.2 ≤ n) (h11 : n + 1 ≤ 11) (hk : k ≤ ts.length) : GoodT (i + 1) (ts.take k ++ [(.tup (vsT (ts.drop k)), 40 :: (TL.joinL [32] ((pack (ts.drop k)).map (·.2)) ++ [41]), n + 1)]) := by
  obtain ⟨h1, h2, h3⟩ := h
  refine ⟨fun t ht => ?_, ?_, ?_⟩
  · rcases List.mem_append.mp ht with ht | ht
    · exact h1 t (List.mem_of_mem_take ht)
    · rw [List.mem_singleton.mp ht]
      exact ⟨pack_wr fun t ht => ⟨(h1 t (List.mem_of_mem_drop ht)).1, hn t ht⟩, h11⟩
  · rw [List.map_append, List.sum_append]
    have h4 := pack_len (ts.drop k)
    have h5 := sum_split (ts := ts) k
    show _ + ((40 :: (TL.joinL [32] ((pack (ts.drop k)).map (·.2)) ++ [41])).length + 1 + 0) ≤ _
    omega
  · rw [List.length_append, List.length_take]
    show _ + 1 ≤ _
    omega
theorem value_ok' {sc : List Int} {d : D} {m : Nat} {ns : List Int} (hd : ScD sc d) (hb : ∀ z ∈ sc, z.natAbs < 2 ^ mostBits) (hs : Sm m ns) (hm : m ≤ 300) : FI f__law_value [d, .lst (ns.map D.int)] fun r => ∃ d w, r = .im d ∧ Wr 12 d w ∧ w.length ≤ 400000 := by
  refine w_fi ?_
  unfold d__law_value
  show SW _ [some (false, .im _), some (false, .im _), none, none, none, none, none, none, none] _
  trivial
  rw [List.length_map, hs.1]
  refine ⟨⟨by omega, by omega⟩, ?_⟩
  refine sw_range (fun i e => ∃ (ts : List T3) (s4 s5 s6 s7 s8 : Option O), e = [some (false, .im d), some (false, .im (.lst (ns.map D.int))), some (false, .lst (List.map O.im (vsT ts))), some (false, .lst (List.map O.im (List.map D.int (ksT ts)))), fo s4, fo s5, fo s6, fo s7, fo s8] ∧ GoodT i ts) ⟨[], none, none, none, none, none, rfl, GoodT.nil⟩ ?_ ?_
  · rintro i e hi ⟨ts, s4, s5, s6, s7, s8, rfl, hg⟩
    have hi : i < m := by omega
    have htl := hg.2.2
    have fl : (O.flats (List.map O.im (vsT ts))).length = ts.length := by rw [flats_im, List.length_map]
    refine ⟨_, if_pos (fo_free rfl), ?_⟩
    simp only [List.set_cons_succ, List.set_cons_zero]
    refine w_seqM (fun e => ∃ n : Int, e = [some (false, .im d), some (false, .im (.lst (ns.map D.int))), some (false, .lst (List.map O.im (vsT ts))), some (false, .lst (List.map O.im (List.map D.int (ksT ts)))), some (false, .im (.int (i : Int))), some (false, .im (.int n)), fo s6, fo s7, fo s8] ∧ 0 ≤ n ∧ n < 1000) ?_ ?_
    · trivial
      refine op_sm hs (by omega) (by omega) fun n n0 n1 => ?_
      trivial
      exact ⟨n, rfl, n0, n1⟩
    rintro e ⟨n, rfl, n0, n1⟩
    have f6 := fm (n.fdiv 8) (b := 6) (by decide)
    refine w_seqM (fun e => e = [some (false, .im d), some (false, .im (.lst (ns.map D.int))), some (false, .lst (List.map O.im (vsT ts))), some (false, .lst (List.map O.im (List.map D.int (ksT ts)))), some (false, .im (.int (i : Int))), some (false, .im (.int n)), some (false, .im (.int 0)), fo s7, fo s8]) ?_ ?_
    · trivial
    rintro e rfl
    have pick : ∀ z : Int, 0 ≤ z → ∃ many : Nat, (if (ts.length : Int) < z then (ts.length : Int) else z) = many ∧ many ≤ ts.length := fun z hz => ⟨(if (ts.length : Int) < z then (ts.length : Int) else z).toNat, by split <;> omega, by split <;> omega⟩
    refine w_seqM (fun e => ∃ many : Nat, e = [some (false, .im d), some (false, .im (.lst (ns.map D.int))), some (false, .lst (List.map O.im (vsT ts))), some (false, .lst (List.map O.im (List.map D.int (ksT ts)))), some (false, .im (.int (i : Int))), some (false, .im (.int n)), some (false, .im (.int (many : Nat))), fo s7, fo s8] ∧ many ≤ ts.length) ?_ ?_
    · trivial
      refine br_dec (fun h => ?_) (fun h => ?_)
      · trivial
        rw [fl]
        obtain ⟨many, e, h⟩ := pick _ f6.1
        rw [e]
        exact ⟨many, rfl, h⟩
      trivial
      refine br_dec (fun h => ?_) (fun h => ?_)
      · trivial
        rw [fl]
        obtain ⟨many, e, h⟩ := pick _ f6.1
        rw [e]
        exact ⟨many, rfl, h⟩
      · trivial
        exact ⟨0, rfl, by omega⟩
    rintro e ⟨many0, rfl, hmany0⟩
    refine w_seqM (fun e => ∃ many : Nat, e = [some (false, .im d), some (false, .im (.lst (ns.map D.int))), some (false, .lst (List.map O.im (vsT ts))), some (false, .lst (List.map O.im (List.map D.int (ksT ts)))), some (false, .im (.int (i : Int))), some (false, .im (.int n)), some (false, .im (.int (many : Nat))), fo s7, fo s8] ∧ many ≤ ts.length) ?_ ?_
    · trivial
      refine br_dec (fun h => ?_) (fun h => ?_)
      · trivial
        rw [fl]
        obtain ⟨many, e, h⟩ := pick 1 (by omega)
        rw [e]
        exact ⟨many, rfl, h⟩
      · trivial
        exact ⟨many0, rfl, hmany0⟩
    rintro e ⟨many, rfl, hmany⟩
    have lenk : (List.map D.int (ksT ts)).length = ts.length := by rw [List.length_map, List.length_map]
    have lenv : (vsT ts).length = ts.length := List.length_map _
    have len : (List.map O.im (vsT ts)).length < sizeLine := by rw [List.length_map, lenv]; exact sz_of (by omega)
    have len2 : (List.map O.im (List.map D.int (ksT ts))).length < sizeLine := by rw [List.length_map, lenk]; exact sz_of (by omega)
    have ek : (ts.length : Int) - (many : Int) = ((ts.length - many : Nat) : Int) := by omega
    refine w_seqM (fun e => ∃ dp : Nat, e = [some (false, .im d), some (false, .im (.lst (ns.map D.int))), some (false, .lst (List.map O.im (vsT ts))), some (false, .lst (List.map O.im (List.map D.int (ksT ts)))), some (false, .im (.int (i : Int))), some (false, .im (.int n)), some (false, .im (.int (many : Nat))), some (false, .im (.int (dp : Nat))), fo s8] ∧ 1 ≤ dp ∧ ∀ t ∈ ts.drop (ts.length - many), t.2.2 + 1 ≤ dp) ?_ ?_
    · trivial
      rw [fl, ek]
      refine op_from (l := List.map D.int (ksT ts)) (k := ts.length - many) (by omega) rfl ?_
      trivial
      refine op_catL (l := [D.int 0]) (by rw [List.length_drop, lenk, List.length_singleton]; omega) ?_
      trivial
      show OP (maxLD [.lst (O.flats _)]) _
      rw [flats_im]
      refine op_maxL (a := 0) (l := (ksT ts).drop (ts.length - many)) (by rw [List.map_cons, List.map_drop]; rfl) ?_
      trivial
      obtain ⟨q1, q2⟩ := lmax_ok ((ksT ts).drop (ts.length - many)) 0
      have q0 := q2 0 List.mem_cons_self
      have e7 : lmax 0 ((ksT ts).drop (ts.length - many)) + 1 = ((lmax 0 ((ksT ts).drop (ts.length - many)) + 1).toNat : Int) := by omega
      refine ⟨(lmax 0 ((ksT ts).drop (ts.length - many)) + 1).toNat, by rw [← e7], by omega, fun t ht => ?_⟩
      have q3 := q2 (t.2.2 : Int) (List.mem_cons_of_mem _ (by
        show _ ∈ List.drop _ (List.map _ _)
        rw [← List.map_drop]
        exact List.mem_map_of_mem ht))
      omega
    rintro e ⟨dp, rfl, hdp, hch⟩
    have leafp : ∀ {e}, e = [some (false, .im d), some (false, .im (.lst (ns.map D.int))), some (false, .lst (List.map O.im (vsT ts))), some (false, .lst (List.map O.im (List.map D.int (ksT ts)))), some (false, .im (.int (i : Int))), some (false, .im (.int n)), some (false, .im (.int (many : Nat))), some (false, .im (.int (dp : Nat))), fo s8] → True := fun _ => True.intro
    trivial
    refine br_dec (fun h => ?_) (fun h => ?_)
    · trivial
      refine br_dec (fun h2 => ?_) (fun h2 => ?_)
      · trivial
        rw [fl, ek]
        refine op_from (l := vsT ts) (k := ts.length - many) (by omega) rfl ?_
        trivial
        rw [fl, ek, flats_im]
        refine op_to (l := vsT ts) (k := ts.length - many) (by omega) rfl ?_
        trivial
        refine op_catL (m := [D.tup ((vsT ts).drop (ts.length - many))]) (by rw [List.length_take, lenv, List.length_singleton]; omega) ?_
        trivial
        rw [show (O.flats (List.map O.im (List.map D.int (ksT ts)))).length = ts.length by rw [flats_im, lenk], ek]
        refine op_to (l := List.map D.int (ksT ts)) (k := ts.length - many) (by omega) rfl ?_
        trivial
        refine op_catL (m := [D.int (dp : Int)]) (by rw [List.length_take, lenk, List.length_singleton]; omega) ?_
        trivial
        obtain ⟨q, rfl⟩ : ∃ q, dp = q + 1 := ⟨dp - 1, by omega⟩
        refine ⟨_, some (.im (.int (i : Int))), some (.im (.int n)), some (.im (.int (many : Int))), some (.im (.int ((q + 1 : Nat) : Int))), some (.im (.lst ((vsT ts).drop (ts.length - many)))), ?_, hg.tup (ts.length - many) q (fun t ht => by have := hch t ht; omega) (by omega) (by omega)⟩
        simp [vsT, ksT, fo, List.map_take, List.map_drop]
      · trivial
        refine w_callI (ds := [_, .int _]) (cell2_ok hd (i : Int) (by omega)) rfl ?_
        trivial
        refine w_call (ds := [.int _, .int _]) (leaf_ok _ n (big_get hb _) n0 n1) rfl ?_
        rintro v ⟨dd, w, rfl, hl⟩
        dsimp only [rvF]
        trivial
        exact ⟨ts ++ [(dd, w, 0)], some (.im (.int (i : Int))), some (.im (.int n)), some (.im (.int (many : Int))), some (.im (.int (dp : Int))), s8, by simp [vsT, ksT, fo], hg.leaf hl⟩
    · trivial
      refine w_callI (ds := [_, .int _]) (cell2_ok hd (i : Int) (by omega)) rfl ?_
      trivial
      refine w_call (ds := [.int _, .int _]) (leaf_ok _ n (big_get hb _) n0 n1) rfl ?_
      rintro v ⟨dd, w, rfl, hl⟩
      dsimp only [rvF]
      trivial
      exact ⟨ts ++ [(dd, w, 0)], some (.im (.int (i : Int))), some (.im (.int n)), some (.im (.int (many : Int))), some (.im (.int (dp : Int))), s8, by simp [vsT, ksT, fo], hg.leaf hl⟩
  · rintro e ⟨ts, s4, s5, s6, s7, s8, rfl, hg⟩
    have fl : (O.flats (List.map O.im (vsT ts))).length = ts.length := by rw [flats_im, List.length_map]
    trivial
    rw [fl]
    refine br_dec (fun h => ?_) (fun h => ?_)
    · obtain ⟨t, rfl⟩ : ∃ t, ts = [t] := by
        match ts, h with
        | [t], _ => exact ⟨t, rfl⟩
        | [], h => exact absurd h (by decide)
        | _ :: _ :: _, h => rw [List.length_cons, List.length_cons] at h; omega
      trivial
      obtain ⟨h1, h2, h3⟩ := hg
      obtain ⟨h4, h5⟩ := h1 t List.mem_cons_self
      have h2 : t.2.1.length + 1 + 0 ≤ 1010 * (m : Int).toNat := h2
      exact ⟨t.1, t.2.1, rfl, h4.mono (by omega), by omega⟩
    · trivial
      obtain ⟨h1, h2, h3⟩ := hg
      refine ⟨.tup (vsT ts), by
        show (ims _).map D.tup = _
        rw [ims_map]
        rfl, ?_⟩
      trivial
      have h4 := pack_len ts
      exact ⟨_, _, rfl, pack_wr (n := 11) h1, by omega⟩
theorem cut_from (l : List D) (k : Nat) (h : k ≤ l.length) : cutD l (some (k : Int)) none = l.drop k := by
  unfold cutD
  rw [HT.sIx_nat, HT.sIx_none, Nat.min_eq_left h, List.take_of_length_le (by rw [List.length_drop]; omega)]
theorem cut_one (l : List D) : cutD l (some 1) none = l.drop 1 := by
  cases l with
  | nil => rfl
  | cons a l => exact cut_from (a :: l) 1 (by rw [List.length_cons]; omega)
theorem Sm.cat {m k : Nat} {ns ms : List Int} (h : Sm m ns) (g : Sm k ms) : Sm (m + k) (ns ++ ms) := ⟨by rw [List.length_append, h.1, g.1], fun n hn => (List.mem_append.mp hn).elim (h.2 n) (g.2 n)⟩
theorem cut_map (ns : List Int) (lo hi : Option Int) : ∃ ns' : List Int, cutD (ns.map D.int) lo hi = ns'.map D.int ∧ ns'.length ≤ ns.length ∧ ∀ n ∈ ns', n ∈ ns := by
  unfold cutD
  refine ⟨(ns.drop (HT.sIx (ns.map D.int).length 0 lo)).take (HT.sIx (ns.map D.int).length (ns.map D.int).length hi - HT.sIx (ns.map D.int).length 0 lo), by rw [List.map_take, List.map_drop], ?_, fun n hn => List.mem_of_mem_drop (List.mem_of_mem_take hn)⟩
  rw [List.length_take, List.length_drop]
  omega
end K73

namespace K73
open PySem DL TOK NTN RDT
local macro_rules
  | `(tactic| trivial) => `(tactic| repeat' with_reducible first
    | refine DL.w_pure ?_ | refine DL.w_dq ?_ | refine DL.w_imR ?_ | refine DL.w_imD ?_ | refine DL.w_fl ?_ | refine DL.w_bin ?_ | refine DL.w_cmp ?_ | refine DL.w_rev ?_ | refine DL.w_cat ?_ | refine DL.w_chain ?_ | refine DL.w_dtB ?_ | refine DL.w_dtru ?_
    | refine DL.w_frzI (by with_unfolding_all rfl) ?_ | refine DL.w_vwI (by with_unfolding_all rfl) ?_ | refine DL.w_owO (by with_unfolding_all rfl) ?_ | refine DL.w_varI (by with_unfolding_all rfl) ?_ | refine DL.w_varL (by with_unfolding_all rfl) ?_ | refine DL.w_varT (by with_unfolding_all rfl) ?_
    | refine DL.w_vwO (by with_unfolding_all rfl) ?_ | (refine DL.w_frzO (by with_unfolding_all rfl) ?_; simp only [List.set_cons_succ, List.set_cons_zero, DL.O.flat])
    | refine DL.w_dcons ?_ | refine DL.w_dconsV ?_ | refine DL.w_darcons ?_ | (refine DL.w_dtup ?_) | refine DL.w_dlst ?_ | refine DL.w_dixO ?_ | refine DL.w_sq ?_ | refine DL.w_dixX ?_ | refine DL.w_listX ?_ | refine DL.w_sorted ?_ | refine DL.w_un ?_ | refine DL.w_sqC ?_ | refine DL.w_forC ?_ | refine DL.op_fldI (by with_unfolding_all rfl) ?_ | refine DL.w_rg ?_ | refine DL.w_rvO ?_ | refine DL.w_dslice ?_ | refine DL.w_dtmc ?_ | refine DL.w_dtupN ?_ | refine DL.w_dlist ?_ | refine DL.w_dtuple ?_ | refine DL.w_tupV ?_ | refine DL.w_listV ?_
    | refine DL.w_bind ?_ | refine DL.w_lift ?_ | refine DL.w_frz ?_ | refine DL.w_vw ?_ | refine DL.w_ow ?_
    | refine DL.w_dand ?_ | refine DL.w_dor ?_ | refine DL.w_dnot ?_ | refine DL.w_dandV ?_ | refine DL.w_dorV ?_ | refine DL.w_dnotV ?_ | refine DL.w_dif ?_
    | refine DL.frzP_im ?_ | refine DL.frzP_new ?_ | refine DL.vwP_im ?_ | refine DL.vwP_new ?_ | refine DL.vwP_bor ?_ | refine DL.owP_im ?_ | refine DL.owP_new ?_ | refine DL.owP_bor ?_
    | (refine DL.setP_im (by with_unfolding_all first | rfl | exact DL.fo_free rfl) ?_; simp only [List.set_cons_succ, List.set_cons_zero, DL.O.flat]) | (refine DL.setP_new (by with_unfolding_all first | rfl | exact DL.fo_free rfl) ?_; simp only [List.set_cons_succ, List.set_cons_zero, DL.O.flat])
    | refine DL.argP_im ?_ | refine DL.argP_new ?_ | refine DL.argP_bor ?_ | refine DL.rvP_im ?_ | refine DL.rvP_new ?_ | refine DL.mvP_im ?_ | refine DL.mvP_new ?_ | (refine DL.mvP_bor (by with_unfolding_all rfl) ?_; simp only [List.set_cons_succ, List.set_cons_zero]) | refine DL.itP_im ?_ | refine DL.itP_new ?_ | refine DL.tuP_lst ?_ | refine DL.blP_of ?_
    | refine DL.op_rng (by with_unfolding_all decide) ?_ | refine DL.op_rngG ?_ | refine DL.op_isiII ?_ | refine DL.op_isiIB ?_ | refine DL.op_isiTT ?_ | refine DL.op_isiLL ?_
    | refine DL.op_eq ?_ | refine DL.op_ne ?_ | refine DL.br_t ?_ | refine DL.br_f ?_ | refine DL.br_not ?_ | refine DL.br_eqT (by with_unfolding_all rfl) ?_ | refine DL.br_eqF (by with_unfolding_all rfl) ?_
    | refine DL.op_mod (by with_unfolding_all decide) ?_ | refine DL.op_div (by with_unfolding_all decide) ?_ | refine DL.op_mul (DL.mul_r (by with_unfolding_all decide)) ?_ | refine DL.op_mul (DL.mul_l (by with_unfolding_all decide)) ?_ | refine DL.op_pow (by with_unfolding_all decide) ?_
    | refine DL.w_seq ?_ | refine DL.w_next ?_ | refine DL.w_if ?_ | refine DL.w_match ?_ | refine DL.pickP_of (by with_unfolding_all decide) ?_ | refine DL.sp_t ?_ | refine DL.sp_f (by with_unfolding_all decide) ?_ | refine DL.sp_n ?_ | refine DL.w_rt ?_ | refine DL.w_set ?_ | refine DL.w_drop ?_ | refine DL.w_app (by with_unfolding_all rfl) ?_ | (refine DL.appP_of (by with_unfolding_all rfl) (by first | assumption | with_unfolding_all exact Nat.le_of_ble_eq_true rfl | (simp only [List.length_append, List.length_map, List.length_cons, List.length_nil]; omega)) ?_; simp only [List.set_cons_succ, List.set_cons_zero, DL.O.flat]) | refine DL.w_forP ?_ | refine DL.w_sforv (by with_unfolding_all rfl) (by with_unfolding_all rfl) ?_ | refine DL.w_asg ?_ | refine DL.w_forV ?_ | refine DL.sqt_if ?_ | refine DL.sqt_rt ?_ | refine DL.sqt_next ?_
    | refine DL.sz (by with_unfolding_all exact Nat.le_of_ble_eq_true rfl) ?_
    | refine DL.outI_im (by with_unfolding_all exact Nat.le_of_ble_eq_true rfl) ?_ | refine DL.outI_new (by with_unfolding_all exact Nat.le_of_ble_eq_true rfl) ?_ | refine DL.outI_bor (by with_unfolding_all exact Nat.le_of_ble_eq_true rfl) (by with_unfolding_all rfl) ?_
    | exact DL.us_next | exact DL.us_bk | exact DL.us_ct | exact DL.us_rtN | refine DL.us_seq ?_ ?_ | refine DL.us_if ?_ ?_ ?_ | refine DL.us_rt ?_ | refine DL.us_drop ?_ | refine DL.us_setI (by decide) ?_
    | exact DL.ud_pure | exact DL.ud_lift | exact DL.ud_xf | exact DL.ud_xi | exact DL.ud_var (by decide) | exact DL.ud_frz (by decide)
    | refine DL.ud_imR ?_ | refine DL.ud_vw ?_ | refine DL.ud_dtup ?_ | refine DL.ud_dlst ?_ | refine DL.ud_dcons ?_ ?_ | refine DL.ud_dconsV ?_ ?_ | refine DL.ud_dbin ?_ ?_ | refine DL.ud_dcmp ?_ ?_ | refine DL.ud_dtB ?_ | refine DL.ud_dtru ?_
    | refine DL.ud_dnot ?_ | refine DL.ud_dand ?_ ?_ | refine DL.ud_dor ?_ ?_ | refine DL.ud_dnotV ?_ | refine DL.ud_dandV ?_ ?_ | refine DL.ud_dorV ?_ ?_ | refine DL.ud_dif ?_ ?_ ?_ | refine DL.ud_imD ?_ | refine DL.ud_fl ?_ | refine DL.ud_dixO ?_ ?_ | refine DL.ud_dixX ?_ ?_ | exact DL.ud_ow (by decide) | exact DL.ud_meth0 (by decide) | (refine DL.ud_bind ?_ fun _ => ?_)
    | refine DL.w_op (by with_unfolding_all rfl) ?_ | rfl)

/-- the place where r stands -/
def pl (x r : List Nat) : Int := ((x.length - r.length : Nat) : Int)
theorem pl_drop {x l : List Nat} {a : Nat} (h : x.drop a = l) (ha : a ≤ x.length) : pl x l = (a : Int) := by
  have e := congrArg List.length h
  rw [List.length_drop] at e
  unfold pl
  omega
theorem pl_more {x l : List Nat} {a k : Nat} (h : x.drop a = l) (ha : a ≤ x.length) (hk : k ≤ l.length) : pl x (l.drop k) = ((a + k : Nat) : Int) := by
  have e := congrArg List.length h
  rw [List.length_drop] at e
  unfold pl
  rw [List.length_drop]
  omega
theorem tw_stop {p : Nat → Bool} : ∀ {l : List Nat} {c : Nat}, l[(l.takeWhile p).length]? = some c → p c = false
  | d :: l, c, h => by
    rw [List.takeWhile_cons] at h
    split at h
    · exact tw_stop (l := l) h
    · rename_i hd
      have h : some d = some c := h
      cases h
      simpa using hd
theorem dg_stop {l : List Nat} {c : Nat} (h48 : l.head? ≠ some 48) (h60 : (dg l).length < 60) (h : l[(dg l).length]? = some c) : dig c = false := by
  have e : dg l = (l.takeWhile dig).take 60 := if_neg h48
  have e2 : (dg l).length = (l.takeWhile dig).length := by rw [e, List.length_take] at h60 ⊢; omega
  rw [e2] at h
  exact tw_stop h
theorem dg_at {l : List Nat} {q c : Nat} (hq : q < (dg l).length) (h : l[q]? = some c) : dig c = true := by
  have e := dg_app l
  have h2 : (dg l)[q]? = some c := by
    rw [← h]
    conv => rhs; rw [← e]
    exact (List.getElem?_append_left hq).symm
  exact dg_dig (List.mem_of_getElem? h2)
theorem take_ok {x : List Nat} (hx : ok x) {a : Nat} (n : Nat) : ok ((x.drop a).take n) := fun c hc => hx c (List.mem_of_mem_drop (List.mem_of_mem_take hc))
theorem end_ok {x l : List Nat} {a : Nat} (hx : ok x) (hz : x.length ≤ 900000) (ha : a ≤ x.length) (hl : x.drop a = l) : FI f_number_end [.str (S x), .int a] (· = .im (.int ((a + (dg l).length : Nat) : Int))) := by
  have e := congrArg List.length hl
  rw [List.length_drop] at e
  have hdl := dg_len l
  have okl : ok (l.take 1) := by rw [← hl]; exact take_ok hx 1
  refine w_fi ?_
  unfold d_number_end
  show SW _ [some (false, .im _), some (false, .im _), none] _
  trivial
  refine op_slice (b := a + 1) (by omega) (by omega) (by omega) ?_
  rw [show a + 1 - a = 1 by omega, hl]
  trivial
  refine op_eqS (m := [48]) okl (ok_one (by omega)) ?_
  refine br_dec (fun h => ?_) (fun h => ?_)
  · have h48 := take_one.mp h
    trivial
    rw [show (dg l).length = 1 from by unfold dg; rw [if_pos h48]; rfl]
    rfl
  · have h48 : l.head? ≠ some 48 := fun z => h (take_one.mpr z)
    trivial
    refine w_cut (fun e => e = [some (false, .im (.str (S x))), some (false, .im (.int a)), some (false, .im (.int ((a + (dg l).length : Nat) : Int)))]) ?_ ?_
    · refine sw_while (fun k e => ∃ q, e = [some (false, .im (.str (S x))), some (false, .im (.int a)), some (false, .im (.int ((a + q : Nat) : Int)))] ∧ q ≤ (dg l).length ∧ k = (dg l).length - q) ?_ 1000000 ((dg l).length) _ (by omega) ⟨0, rfl, by omega, by omega⟩
      rintro k e ⟨q, rfl, hq, rfl⟩
      have fin : ¬ q < (dg l).length → q = (dg l).length := fun z => by omega
      trivial
      refine op_lenS (by omega) ?_
      trivial
      refine br_dec (fun h => ?_) (fun h => ?_)
      · trivial
        refine br_dec (fun h2 => ?_) (fun h2 => ?_)
        · have hlt : a + q < x.length := by omega
          have hat : x[a + q]? = l[q]? := by rw [← hl, List.getElem?_drop]
          rw [List.getElem?_eq_getElem hlt] at hat
          trivial
          refine op_at hlt (by omega) ?_
          trivial
          refine br_dg ⟨fun hc2 => ?_, fun hc2 => ?_⟩
          · have hq2 : q < (dg l).length := by
              refine Classical.byContradiction fun z => ?_
              have z := fin z
              subst z
              rw [dg_stop h48 (by omega) hat.symm] at hc2
              cases hc2
            refine ⟨(dg l).length - (q + 1), by omega, ?_⟩
            refine w_aug (by rfl) ?_
            trivial
            exact ⟨1, rfl, rfl, q + 1, rfl, by omega, rfl⟩
          · rw [fin fun z => ?_]
            rw [dg_at z hat.symm] at hc2
            cases hc2
        · have h60 := dg_60 l
          rw [fin fun z => by omega]
          exact ⟨fun z => (nomatch z), fun _ => rfl⟩
      · rw [fin fun z => by omega]
        exact ⟨fun z => (nomatch z), fun _ => rfl⟩
    · rintro e rfl
      trivial

theorem op_intD {t : List Nat} {P : D → Prop} (h : DgOk t) (p : P (.int (val t : Int))) : OP (intS [.str (S t)]) P := by
  have e := op_int (P := P) (val_lt h) p
  rwa [num_val h] at e
theorem drop_len {x l : List Nat} {a : Nat} (hl : x.drop a = l) (ha : a ≤ x.length) : a + l.length = x.length := by
  have e := congrArg List.length hl
  rw [List.length_drop] at e
  omega
theorem head_at {x l : List Nat} {a c : Nat} (hl : x.drop a = l) (h : l.head? = some c) : x[a]? = some c := by
  rw [← h, ← hl, List.head?_drop]
theorem neg_ok {x l : List Nat} {a : Nat} (hx : ok x) (hz : x.length ≤ 900000) (ha : a ≤ x.length) (hl : x.drop a = l) : match negR l with
    | .ok d w r => FI f_read_negative [.str (S x), .int a] (· = .im (.tup [d, .int (pl x r)]))
    | .bad r => FE f_read_negative [.str (S x), .int a] (· = xn "BadNotation" (.int (pl x r)))
    | .out => True := by
  have hlen := drop_len hl ha
  have hdl := dg_len l
  unfold negR
  by_cases h : dg l = [] ∨ l.head? = some 48
  · rw [if_pos h]
    dsimp only
    rw [pl_drop hl ha]
    have fin : ∀ e : DL.Env, e = [some (false, O.im (D.str (S x))), some (false, O.im (D.int a)), some (false, O.im (D.int ((a + (dg l).length : Nat) : Int)))] → SE (sraise "BadNotation" (frz (dvar 1))) e fun z e' => 2 ≤ e'.length ∧ z = xn "BadNotation" (.int a) := by
      rintro e rfl
      refine se_raise ?_
      trivial
      exact ⟨by show 2 ≤ 3; omega, rfl⟩
    refine fe_of ?_
    unfold d_read_negative
    show SE _ [some (false, .im _), some (false, .im _), none] _
    refine se_seqR ?_
    trivial
    refine w_callI (ds := [.str _, .int _]) (end_ok hx hz ha hl) rfl ?_
    trivial
    refine se_seqL (se_if ?_)
    trivial
    refine br_dec (fun h1 => ?_) (fun h1 => ?_)
    · trivial
      exact fin _ rfl
    · have hne : dg l ≠ [] := fun z => h1 (by rw [z]; rfl)
      have h48 := h.resolve_left hne
      trivial
      refine op_at2 (head_at hl h48) (by omega) ?_
      trivial
      exact fin _ rfl
  · rw [if_neg h]
    dsimp only
    have hne : dg l ≠ [] := fun z => h (.inl z)
    have hok := dg_ok hne
    have hpos := List.length_pos_iff.mpr hne
    rw [pl_more hl ha hdl]
    obtain ⟨c, hc⟩ : ∃ c, l.head? = some c := by
      cases l with
      | nil =>
        have h0 : (dg []).length ≤ 0 := hdl
        omega
      | cons c l => exact ⟨c, rfl⟩
    have hc48 : c ≠ 48 := fun z => h (.inr (by rw [hc, z]))
    have hcx : c < 128 := hx c (List.mem_of_getElem? (head_at hl hc))
    refine w_fi ?_
    unfold d_read_negative
    show SW _ [some (false, .im _), some (false, .im _), none] _
    trivial
    refine w_callI (ds := [.str _, .int _]) (end_ok hx hz ha hl) rfl ?_
    trivial
    refine br_dec (fun h1 => by omega) (fun h1 => ?_)
    trivial
    refine op_at2 (head_at hl hc) (by omega) ?_
    trivial
    refine op_eqS (l := [c]) (m := [48]) (ok_one hcx) (ok_one (by omega)) ?_
    refine br_dec (fun z => absurd (by injection z) hc48) (fun z => ?_)
    trivial
    refine op_slice (b := a + (dg l).length) (by omega) (by omega) rfl ?_
    rw [hl, show a + (dg l).length - a = (dg l).length by omega, ← dg_pre l]
    trivial
    refine op_intD hok ?_
    trivial
theorem num_ok {x l : List Nat} {a : Nat} (hx : ok x) (hz : x.length ≤ 900000) (ha : a ≤ x.length) (hl : x.drop a = l) (hne : dg l ≠ []) : match numR l with
    | .ok d w r => FI f_read_number [.str (S x), .int a] (· = .im (.tup [d, .int (pl x r)]))
    | .bad r => FE f_read_number [.str (S x), .int a] (· = xn "BadNotation" (.int (pl x r)))
    | .out => True := by
  have hlen := drop_len hl ha
  have hdl := dg_len l
  have hok := dg_ok hne
  have hr : x.drop (a + (dg l).length) = l.drop (dg l).length := by rw [← List.drop_drop, hl]
  have okr : ok ((l.drop (dg l).length).take 1) := by rw [← hr]; exact take_ok hx 1
  have hq : (l.drop (dg l).length).head? = some 58 → l.drop (dg l).length = 58 :: (l.drop (dg l).length).tail := fun z => by
    cases e : l.drop (dg l).length with
    | nil => rw [e] at z; cases z
    | cons c q => rw [e] at z; cases z; rfl
  unfold numR
  by_cases h : val (dg l) > 1000 ∨ (l.drop (dg l).length).head? ≠ some 58
  · rw [if_pos h]
    dsimp only
    rw [pl_more hl ha hdl]
    refine w_fi ?_
    unfold d_read_number
    show SW _ [some (false, .im _), some (false, .im _), none, none, none] _
    trivial
    refine w_callI (ds := [.str _, .int _]) (end_ok hx hz ha hl) rfl ?_
    trivial
    refine op_slice (b := a + (dg l).length) (by omega) (by omega) rfl ?_
    rw [hl, show a + (dg l).length - a = (dg l).length by omega, ← dg_pre l]
    trivial
    refine op_intD hok ?_
    trivial
    refine br_dec (fun h1 => ?_) (fun h1 => ?_)
    · trivial
    have h58 := h.resolve_left (fun z => h1 (by omega))
    trivial
    refine op_slice (b := a + (dg l).length + 1) (by omega) (by omega) (by omega) ?_
    rw [hr, show a + (dg l).length + 1 - (a + (dg l).length) = 1 by omega]
    trivial
    refine op_neS (m := [58]) okr (ok_one (by omega)) ?_
    refine br_dec (fun h2 => ?_) (fun h2 => absurd (take_one.mp (Classical.not_not.mp h2)) h58)
    trivial
  · rw [if_neg h]
    have hv : ¬ val (dg l) > 1000 := fun z => h (.inl z)
    have h58 : (l.drop (dg l).length).head? = some 58 := Classical.byContradiction fun z => h (.inr z)
    have hq := hq h58
    have hlq := congrArg List.length hq
    rw [List.length_drop, List.length_cons] at hlq
    have h1 : (l.drop (dg l).length).take 1 = [58] := by rw [hq]; rfl
    by_cases hb : (l.drop (dg l).length).tail.length < val (dg l)
    · rw [if_pos hb]
      dsimp only
      refine fe_of ?_
      unfold d_read_number
      show SE _ [some (false, .im _), some (false, .im _), none, none, none] _
      refine se_seqR ?_
      trivial
      refine w_callI (ds := [.str _, .int _]) (end_ok hx hz ha hl) rfl ?_
      trivial
      refine se_seqR ?_
      trivial
      refine op_slice (b := a + (dg l).length) (by omega) (by omega) rfl ?_
      rw [hl, show a + (dg l).length - a = (dg l).length by omega, ← dg_pre l]
      trivial
      refine op_intD hok ?_
      trivial
      refine se_seqR ?_
      trivial
      refine br_dec (fun h1 => absurd (show val (dg l) > 1000 by omega) hv) (fun _ => ?_)
      trivial
      refine op_slice (b := a + (dg l).length + 1) (by omega) (by omega) (by omega) ?_
      rw [hr, show a + (dg l).length + 1 - (a + (dg l).length) = 1 by omega, h1]
      trivial
      refine se_seqR ?_
      trivial
      refine se_seqL (se_if ?_)
      trivial
      refine op_lenS (by omega) ?_
      trivial
      refine br_dec (fun _ => ?_) (fun z => by omega)
      refine se_raise ?_
      trivial
      refine op_lenS (by omega) ?_
      trivial
      exact ⟨by show 2 ≤ 5; omega, rfl⟩
    · rw [if_neg hb]
      dsimp only
      refine w_fi ?_
      unfold d_read_number
      show SW _ [some (false, .im _), some (false, .im _), none, none, none] _
      trivial
      refine w_callI (ds := [.str _, .int _]) (end_ok hx hz ha hl) rfl ?_
      trivial
      refine op_slice (b := a + (dg l).length) (by omega) (by omega) rfl ?_
      rw [hl, show a + (dg l).length - a = (dg l).length by omega, ← dg_pre l]
      trivial
      refine op_intD hok ?_
      trivial
      refine br_dec (fun h1 => absurd (show val (dg l) > 1000 by omega) hv) (fun _ => ?_)
      trivial
      refine op_slice (b := a + (dg l).length + 1) (by omega) (by omega) (by omega) ?_
      rw [hr, show a + (dg l).length + 1 - (a + (dg l).length) = 1 by omega, h1]
      trivial
      refine op_lenS (by omega) ?_
      trivial
      refine br_dec (fun z => by omega) (fun _ => ?_)
      trivial
      refine op_sliceI (a := a + (dg l).length + 1) (b := a + (dg l).length + 1 + val (dg l)) (by omega) (by omega) (by omega) (by omega) ?_
      rw [show x.drop (a + (dg l).length + 1) = (l.drop (dg l).length).tail from by rw [← List.drop_drop, hr, List.drop_one], show a + (dg l).length + 1 + val (dg l) - (a + (dg l).length + 1) = val (dg l) by omega]
      trivial
      rw [show pl x (List.drop (val (dg l)) (List.drop (dg l).length l).tail) = ((a + (dg l).length : Nat) : Int) + 1 + (val (dg l) : Int) from by unfold pl; rw [List.length_drop]; omega]
end K73

namespace K73
open PySem DL TOK NTN RDT
local macro_rules
  | `(tactic| trivial) => `(tactic| repeat' with_reducible first
    | refine DL.w_pure ?_ | refine DL.w_dq ?_ | refine DL.w_imR ?_ | refine DL.w_imD ?_ | refine DL.w_fl ?_ | refine DL.w_bin ?_ | refine DL.w_cmp ?_ | refine DL.w_rev ?_ | refine DL.w_cat ?_ | refine DL.w_chain ?_ | refine DL.w_dtB ?_ | refine DL.w_dtru ?_
    | refine DL.w_frzI (by with_unfolding_all rfl) ?_ | refine DL.w_vwI (by with_unfolding_all rfl) ?_ | refine DL.w_owO (by with_unfolding_all rfl) ?_ | refine DL.w_varI (by with_unfolding_all rfl) ?_ | refine DL.w_varL (by with_unfolding_all rfl) ?_ | refine DL.w_varT (by with_unfolding_all rfl) ?_
    | refine DL.w_vwO (by with_unfolding_all rfl) ?_ | (refine DL.w_frzO (by with_unfolding_all rfl) ?_; simp only [List.set_cons_succ, List.set_cons_zero, DL.O.flat])
    | refine DL.w_dcons ?_ | refine DL.w_dconsV ?_ | refine DL.w_darcons ?_ | (refine DL.w_dtup ?_) | refine DL.w_dlst ?_ | refine DL.w_dixO ?_ | refine DL.w_sq ?_ | refine DL.w_dixX ?_ | refine DL.w_listX ?_ | refine DL.w_sorted ?_ | refine DL.w_un ?_ | refine DL.w_sqC ?_ | refine DL.w_forC ?_ | refine DL.op_fldI (by with_unfolding_all rfl) ?_ | refine DL.w_rg ?_ | refine DL.w_rvO ?_ | refine DL.w_dslice ?_ | refine DL.w_dtmc ?_ | refine DL.w_dtupN ?_ | refine DL.w_dlist ?_ | refine DL.w_dtuple ?_ | refine DL.w_tupV ?_ | refine DL.w_listV ?_
    | refine DL.w_bind ?_ | refine DL.w_lift ?_ | refine DL.w_frz ?_ | refine DL.w_vw ?_ | refine DL.w_ow ?_
    | refine DL.w_dand ?_ | refine DL.w_dor ?_ | refine DL.w_dnot ?_ | refine DL.w_dandV ?_ | refine DL.w_dorV ?_ | refine DL.w_dnotV ?_ | refine DL.w_dif ?_
    | refine DL.frzP_im ?_ | refine DL.frzP_new ?_ | refine DL.vwP_im ?_ | refine DL.vwP_new ?_ | refine DL.vwP_bor ?_ | refine DL.owP_im ?_ | refine DL.owP_new ?_ | refine DL.owP_bor ?_
    | (refine DL.setP_im (by with_unfolding_all first | rfl | exact DL.fo_free rfl) ?_; simp only [List.set_cons_succ, List.set_cons_zero, DL.O.flat]) | (refine DL.setP_new (by with_unfolding_all first | rfl | exact DL.fo_free rfl) ?_; simp only [List.set_cons_succ, List.set_cons_zero, DL.O.flat])
    | refine DL.argP_im ?_ | refine DL.argP_new ?_ | refine DL.argP_bor ?_ | refine DL.rvP_im ?_ | refine DL.rvP_new ?_ | refine DL.mvP_im ?_ | refine DL.mvP_new ?_ | (refine DL.mvP_bor (by with_unfolding_all rfl) ?_; simp only [List.set_cons_succ, List.set_cons_zero]) | refine DL.itP_im ?_ | refine DL.itP_new ?_ | refine DL.tuP_lst ?_ | refine DL.blP_of ?_
    | refine DL.op_rng (by with_unfolding_all decide) ?_ | refine DL.op_rngG ?_ | refine DL.op_isiII ?_ | refine DL.op_isiIB ?_ | refine DL.op_isiTT ?_ | refine DL.op_isiLL ?_
    | refine DL.op_eq ?_ | refine DL.op_ne ?_ | refine DL.br_t ?_ | refine DL.br_f ?_ | refine DL.br_not ?_ | refine DL.br_eqT (by with_unfolding_all rfl) ?_ | refine DL.br_eqF (by with_unfolding_all rfl) ?_
    | refine DL.op_mod (by with_unfolding_all decide) ?_ | refine DL.op_div (by with_unfolding_all decide) ?_ | refine DL.op_mul (DL.mul_r (by with_unfolding_all decide)) ?_ | refine DL.op_mul (DL.mul_l (by with_unfolding_all decide)) ?_ | refine DL.op_pow (by with_unfolding_all decide) ?_
    | refine DL.w_seq ?_ | refine DL.w_next ?_ | refine DL.w_if ?_ | refine DL.w_match ?_ | refine DL.pickP_of (by with_unfolding_all decide) ?_ | refine DL.sp_t ?_ | refine DL.sp_f (by with_unfolding_all decide) ?_ | refine DL.sp_n ?_ | refine DL.w_rt ?_ | refine DL.w_set ?_ | refine DL.w_drop ?_ | refine DL.w_app (by with_unfolding_all rfl) ?_ | (refine DL.appP_of (by with_unfolding_all rfl) (by first | assumption | with_unfolding_all exact Nat.le_of_ble_eq_true rfl | (simp only [List.length_append, List.length_map, List.length_cons, List.length_nil]; omega)) ?_; simp only [List.set_cons_succ, List.set_cons_zero, DL.O.flat]) | refine DL.w_forP ?_ | refine DL.w_sforv (by with_unfolding_all rfl) (by with_unfolding_all rfl) ?_ | refine DL.w_asg ?_ | refine DL.w_forV ?_ | refine DL.sqt_if ?_ | refine DL.sqt_rt ?_ | refine DL.sqt_next ?_
    | refine DL.sz (by with_unfolding_all exact Nat.le_of_ble_eq_true rfl) ?_
    | refine DL.outI_im (by with_unfolding_all exact Nat.le_of_ble_eq_true rfl) ?_ | refine DL.outI_new (by with_unfolding_all exact Nat.le_of_ble_eq_true rfl) ?_ | refine DL.outI_bor (by with_unfolding_all exact Nat.le_of_ble_eq_true rfl) (by with_unfolding_all rfl) ?_
    | exact DL.us_next | exact DL.us_bk | exact DL.us_ct | exact DL.us_rtN | refine DL.us_seq ?_ ?_ | refine DL.us_if ?_ ?_ ?_ | refine DL.us_rt ?_ | refine DL.us_drop ?_ | refine DL.us_setI (by decide) ?_
    | exact DL.ud_pure | exact DL.ud_lift | exact DL.ud_xf | exact DL.ud_xi | exact DL.ud_var (by decide) | exact DL.ud_frz (by decide)
    | refine DL.ud_imR ?_ | refine DL.ud_vw ?_ | refine DL.ud_dtup ?_ | refine DL.ud_dlst ?_ | refine DL.ud_dcons ?_ ?_ | refine DL.ud_dconsV ?_ ?_ | refine DL.ud_dbin ?_ ?_ | refine DL.ud_dcmp ?_ ?_ | refine DL.ud_dtB ?_ | refine DL.ud_dtru ?_
    | refine DL.ud_dnot ?_ | refine DL.ud_dand ?_ ?_ | refine DL.ud_dor ?_ ?_ | refine DL.ud_dnotV ?_ | refine DL.ud_dandV ?_ ?_ | refine DL.ud_dorV ?_ ?_ | refine DL.ud_dif ?_ ?_ ?_ | refine DL.ud_imD ?_ | refine DL.ud_fl ?_ | refine DL.ud_dixO ?_ ?_ | refine DL.ud_dixX ?_ ?_ | exact DL.ud_ow (by decide) | exact DL.ud_meth0 (by decide) | (refine DL.ud_bind ?_ fun _ => ?_)
    | refine DL.w_op (by with_unfolding_all rfl) ?_ | rfl)

/-- what the reader of a value does, told -/
def PV (rec : FDen) (x : List Nat) (d : Nat) (V : List Nat → RDT.Res) : Prop := ∀ a : Nat, a ≤ x.length → match V (x.drop a) with
  | .ok v w r => FI rec [.str (S x), .int a, .int d] (· = .im (.tup [v, .int (pl x r)]))
  | .bad r => FE rec [.str (S x), .int a, .int d] (· = xn "BadNotation" (.int (pl x r)))
  | .out => True
def PT (f : FDen) (x : List Nat) (d : Nat) (I : List Nat → ResI) : Prop := ∀ a : Nat, a ≤ x.length → (x.drop a).head? ≠ some 41 → match I (x.drop a) with
  | .ok ps r => FI f [.str (S x), .int a, .int d] (· = .im (.tup [.tup (ps.map (·.1)), .int (pl x r)]))
  | .bad r => FE f [.str (S x), .int a, .int d] (· = xn "BadNotation" (.int (pl x r)))
  | .out => True
section
variable {rec : FDen} {x : List Nat} {d : Nat}
theorem good_step (hx : ok x) (hz : x.length ≤ 900000) (hd : d ≤ 12) {n : Nat} (h : ∀ m, m ≤ n → PV rec x d (V m d)) {a : Nat} (ha : a ≤ x.length) {ps : List (D × List Nat)} {r : List Nat} (hI : I n d (x.drop a) = .ok ps r) :
    ∃ v w r1 b, b ≤ x.length ∧ a + 1 ≤ b ∧ x.drop b = r1 ∧ FI rec [.str (S x), .int a, .int d] (· = .im (.tup [v, .int (b : Int)])) ∧
      ((r1.head? = some 41 ∧ ps = [(v, w)] ∧ r = r1.tail ∧ pl x r = (b : Int) + 1) ∨ (r1.head? = some 32 ∧ ∃ m ps2, m + 1 = n ∧ b + 1 ≤ x.length ∧ I m d (x.drop (b + 1)) = .ok ps2 r ∧ ps = (v, w) :: ps2)) := by
  cases n with
  | zero => cases hI
  | succ n =>
    rw [I_succ] at hI
    unfold RDT.stepI at hI
    have okl : ok (x.drop a) := fun c hc => hx c (List.mem_of_mem_drop hc)
    split at hI
    · rename_i v w r1 hV
      have hv := h n (by omega) a ha
      rw [hV] at hv
      dsimp only at hv
      obtain ⟨k1, k2⟩ := (VI_ok n).1 _ _ _ _ _ okl hd hV
      have hlen := drop_len (l := x.drop a) rfl ha
      have hlw := congrArg List.length k1
      rw [List.length_append] at hlw
      have hb : x.drop (a + w.length) = r1 := by rw [← List.drop_drop, k1, List.drop_left]
      have hp : pl x r1 = ((a + w.length : Nat) : Int) := pl_drop hb (by omega)
      rw [hp] at hv
      refine ⟨v, w, r1, a + w.length, by omega, by have := List.length_pos_iff.mpr (Wr_ne k2); omega, hb, hv, ?_⟩
      have htl : ∀ c, r1.head? = some c → x.drop (a + w.length + 1) = r1.tail ∧ a + w.length + 1 ≤ x.length := fun c hc => by
        refine ⟨by rw [← List.drop_drop, hb, List.drop_one], ?_⟩
        cases r1 with
        | nil => cases hc
        | cons c r1 => rw [List.length_cons] at hlw; omega
      split at hI
      · rename_i h41
        cases hI
        obtain ⟨t1, t2⟩ := htl _ h41
        exact .inl ⟨h41, rfl, rfl, by rw [pl_drop t1 t2]; rfl⟩
      split at hI
      · rename_i h32
        obtain ⟨t1, t2⟩ := htl _ h32
        split at hI
        · rename_i ps2 r2 hI2
          cases hI
          exact .inr ⟨h32, n, ps2, rfl, t2, by rw [t1]; exact hI2, rfl⟩
        · cases hI
        · cases hI
      · cases hI
    · cases hI
    · cases hI
theorem bad_step (hx : ok x) (hz : x.length ≤ 900000) (hd : d ≤ 12) {n : Nat} (h : ∀ m, m ≤ n → PV rec x d (V m d)) {a : Nat} (ha : a ≤ x.length) {r : List Nat} (hI : I n d (x.drop a) = .bad r) :
    FE rec [.str (S x), .int a, .int d] (· = xn "BadNotation" (.int (pl x r))) ∨ ∃ v r1 b, b ≤ x.length ∧ a + 1 ≤ b ∧ x.drop b = r1 ∧ FI rec [.str (S x), .int a, .int d] (· = .im (.tup [v, .int (b : Int)])) ∧ r1.head? ≠ some 41 ∧
      ((r1.head? ≠ some 32 ∧ pl x r = (b : Int)) ∨ (r1.head? = some 32 ∧ ∃ m, m + 1 = n ∧ b + 1 ≤ x.length ∧ I m d (x.drop (b + 1)) = .bad r)) := by
  cases n with
  | zero => cases hI
  | succ n =>
    rw [I_succ] at hI
    unfold RDT.stepI at hI
    have okl : ok (x.drop a) := fun c hc => hx c (List.mem_of_mem_drop hc)
    split at hI
    · rename_i v w r1 hV
      have hv := h n (by omega) a ha
      rw [hV] at hv
      dsimp only at hv
      obtain ⟨k1, k2⟩ := (VI_ok n).1 _ _ _ _ _ okl hd hV
      have hlen := drop_len (l := x.drop a) rfl ha
      have hlw := congrArg List.length k1
      rw [List.length_append] at hlw
      have hb : x.drop (a + w.length) = r1 := by rw [← List.drop_drop, k1, List.drop_left]
      have hp : pl x r1 = ((a + w.length : Nat) : Int) := pl_drop hb (by omega)
      rw [hp] at hv
      have htl : ∀ c, r1.head? = some c → x.drop (a + w.length + 1) = r1.tail ∧ a + w.length + 1 ≤ x.length := fun c hc => by
        refine ⟨by rw [← List.drop_drop, hb, List.drop_one], ?_⟩
        cases r1 with
        | nil => cases hc
        | cons c r1 => rw [List.length_cons] at hlw; omega
      split at hI
      · cases hI
      rename_i h41
      refine .inr ⟨v, r1, a + w.length, by omega, by have := List.length_pos_iff.mpr (Wr_ne k2); omega, hb, hv, h41, ?_⟩
      split at hI
      · rename_i h32
        obtain ⟨t1, t2⟩ := htl _ h32
        split at hI
        · cases hI
        · rename_i r2 hI2
          cases hI
          exact .inr ⟨h32, n, rfl, t2, by rw [t1]; exact hI2⟩
        · cases hI
      · rename_i h32
        cases hI
        exact .inl ⟨h32, hp⟩
    · rename_i r1 hV
      have hv := h n (by omega) a ha
      rw [hV] at hv
      cases hI
      exact .inl hv
    · cases hI
theorem tuple_ok (hx : ok x) (hz : x.length ≤ 900000) (hd : d ≤ 12) {n : Nat} (h : ∀ m, m ≤ n → PV rec x d (V m d)) : PT (f_read_tuple rec) x d (I n d) := by
  intro a ha h41
  cases hI : I n d (x.drop a) with
  | out => exact True.intro
  | ok ps r =>
    dsimp only
    refine w_fi ?_
    unfold d_read_tuple
    show SW _ [some (false, .im _), some (false, .im _), some (false, .im _), none, none, none, none] _
    trivial
    refine op_slice (b := a + 1) (by omega) (by omega) (by omega) ?_
    rw [show a + 1 - a = 1 by omega]
    trivial
    refine op_eqS (m := [41]) (take_ok hx 1) (ok_one (by omega)) ?_
    refine br_dec (fun z => absurd (take_one.mp z) h41) (fun _ => ?_)
    trivial
    refine sw_while (fun k e => ∃ (ds : List D) (us : List (D × List Nat)) (b m : Nat) (s5 s6 : Option O), e = [some (false, .im (.str (S x))), some (false, .im (.int a)), some (false, .im (.int d)), some (false, .lst (ds.map O.im)), some (false, .im (.int b)), fo s5, fo s6] ∧ ds ++ us.map (·.1) = ps.map (·.1) ∧ b ≤ x.length ∧ ds.length ≤ b ∧ I m d (x.drop b) = .ok us r ∧ m ≤ n ∧ k = x.length - b) ?_ 1000000 (x.length - a) _ (by omega) ⟨[], ps, a, n, none, none, rfl, rfl, ha, Nat.zero_le _, hI, Nat.le_refl _, rfl⟩
    rintro k e ⟨ds, us, b, m, s5, s6, rfl, hds, hb, hdl, hIb, hm, rfl⟩
    obtain ⟨v, w, r1, b1, hb1, hlt, hr1, hv, hcase⟩ := good_step hx hz hd (fun q hq => h q (by omega)) hb hIb
    have len : (List.map O.im ds).length < sizeLine := by
      rw [List.length_map]
      exact Nat.lt_of_le_of_lt (show ds.length ≤ 900001 by omega) (by decide)
    have h1 : (x.drop b1).take (b1 + 1 - b1) = r1.take 1 := by rw [hr1, show b1 + 1 - b1 = 1 by omega]
    trivial
    refine ⟨x.length - (b1 + 1), by omega, ?_⟩
    trivial
    refine w_callI (ds := [.str _, .int _, .int _]) hv rfl ?_
    trivial
    refine op_b2 (fo_free rfl) rfl ?_
    simp only [List.set_cons_succ, List.set_cons_zero]
    trivial
    refine op_slice (b := b1 + 1) (by omega) (by omega) (by omega) ?_
    rw [h1]
    rcases hcase with ⟨h41', rfl, rfl, hpl⟩ | ⟨h32, m2, ps2, hm2, hb2, hI2, rfl⟩
    · rw [take_one.mpr h41']
      trivial
      refine ⟨.tup ((ds ++ [v])), by
        rw [show List.map O.im ds ++ [O.im v] = (ds ++ [v]).map O.im by simp]
        show (ims _).map D.tup = _
        rw [ims_map]
        rfl, ?_⟩
      trivial
      rw [show ds ++ [v] = ps.map (·.1) from hds, hpl]
    · rw [take_one.mpr h32]
      trivial
      refine w_aug (by rfl) ?_
      trivial
      refine ⟨1, rfl, rfl, ds ++ [v], ps2, b1 + 1, m2, some (O.im v), some (O.im (.str (S [32]))), ?_, ?_, hb2, ?_, hI2, by omega, rfl⟩
      · rw [List.map_append]
        rfl
      · rw [List.append_assoc]
        exact hds
      · rw [List.length_append, List.length_singleton]
        omega
  | bad r =>
    dsimp only
    refine fe_of ?_
    unfold d_read_tuple
    show SE _ [some (false, .im _), some (false, .im _), some (false, .im _), none, none, none, none] _
    refine se_seqR ?_
    trivial
    refine op_slice (b := a + 1) (by omega) (by omega) (by omega) ?_
    rw [show a + 1 - a = 1 by omega]
    trivial
    refine op_eqS (m := [41]) (take_ok hx 1) (ok_one (by omega)) ?_
    refine br_dec (fun z => absurd (take_one.mp z) h41) (fun _ => ?_)
    trivial
    refine se_seqR ?_
    trivial
    refine se_seqR ?_
    trivial
    refine se_while (fun k e => ∃ (ds : List D) (b m : Nat) (s5 s6 : Option O), e = [some (false, .im (.str (S x))), some (false, .im (.int a)), some (false, .im (.int d)), some (false, .lst (ds.map O.im)), some (false, .im (.int b)), fo s5, fo s6] ∧ b ≤ x.length ∧ ds.length ≤ b ∧ I m d (x.drop b) = .bad r ∧ m ≤ n ∧ k = x.length - b) ?_ 1000000 (x.length - a) _ (by omega) ⟨[], a, n, none, none, rfl, ha, Nat.zero_le _, hI, Nat.le_refl _, rfl⟩
    rintro k e ⟨ds, b, m, s5, s6, rfl, hb, hdl, hIb, hm, rfl⟩
    have len : (List.map O.im ds).length < sizeLine := by
      rw [List.length_map]
      exact Nat.lt_of_le_of_lt (show ds.length ≤ 900001 by omega) (by decide)
    trivial
    refine ⟨rfl, ?_⟩
    rcases bad_step hx hz hd (fun q hq => h q (by omega)) hb hIb with hfe | ⟨v, r1, b1, hb1, hlt, hr1, hv, h41', hcase⟩
    · refine .inl (se_seqL ?_)
      show SE (sbind _ _) _ _
      refine se_bindL (ee_frz (ee_bindR ?_))
      trivial
      exact ee_call (ds := [.str _, .int _, .int _]) (fe_imp hfe fun z hz => ⟨by show 3 ≤ 7; omega, hz⟩) rfl
    have h1 : (x.drop b1).take (b1 + 1 - b1) = r1.take 1 := by rw [hr1, show b1 + 1 - b1 = 1 by omega]
    rcases hcase with ⟨h32, hpl⟩ | ⟨h32, m2, hm2, hb2, hI2⟩
    · refine .inl ?_
      have okr : ok (r1.take 1) := by rw [← hr1]; exact take_ok hx 1
      refine se_seqR ?_
      trivial
      refine w_callI (ds := [.str _, .int _, .int _]) hv rfl ?_
      trivial
      refine op_b2 (fo_free rfl) rfl ?_
      simp only [List.set_cons_succ, List.set_cons_zero]
      refine se_seqR ?_
      trivial
      refine se_seqR ?_
      trivial
      refine op_slice (b := b1 + 1) (by omega) (by omega) (by omega) ?_
      rw [h1]
      trivial
      refine se_seqR ?_
      trivial
      refine op_eqS (m := [41]) okr (ok_one (by omega)) ?_
      refine br_dec (fun z => absurd (take_one.mp z) h41') (fun _ => ?_)
      trivial
      refine se_seqL (se_if ?_)
      trivial
      refine op_neS (m := [32]) okr (ok_one (by omega)) ?_
      refine br_dec (fun _ => ?_) (fun z => absurd (take_one.mp (Classical.not_not.mp z)) h32)
      refine se_raise ?_
      trivial
      exact ⟨by show 3 ≤ 7; omega, by rw [hpl]⟩
    · refine .inr ⟨x.length - (b1 + 1), by omega, ?_⟩
      trivial
      refine w_callI (ds := [.str _, .int _, .int _]) hv rfl ?_
      trivial
      refine op_b2 (fo_free rfl) rfl ?_
      simp only [List.set_cons_succ, List.set_cons_zero]
      trivial
      refine op_slice (b := b1 + 1) (by omega) (by omega) (by omega) ?_
      rw [h1, take_one.mpr h32]
      trivial
      refine w_aug (by rfl) ?_
      trivial
      refine ⟨1, rfl, rfl, ds ++ [v], b1 + 1, m2, some (O.im v), some (O.im (.str (S [32]))), ?_, hb2, ?_, hI2, by omega, rfl⟩
      · rw [List.map_append]
        rfl
      · rw [List.length_append, List.length_singleton]
        omega
end
end K73

namespace K73
open PySem DL TOK NTN RDT
local macro_rules
  | `(tactic| trivial) => `(tactic| repeat' with_reducible first
    | refine DL.w_pure ?_ | refine DL.w_dq ?_ | refine DL.w_imR ?_ | refine DL.w_imD ?_ | refine DL.w_fl ?_ | refine DL.w_bin ?_ | refine DL.w_cmp ?_ | refine DL.w_rev ?_ | refine DL.w_cat ?_ | refine DL.w_chain ?_ | refine DL.w_dtB ?_ | refine DL.w_dtru ?_
    | refine DL.w_frzI (by with_unfolding_all rfl) ?_ | refine DL.w_vwI (by with_unfolding_all rfl) ?_ | refine DL.w_owO (by with_unfolding_all rfl) ?_ | refine DL.w_varI (by with_unfolding_all rfl) ?_ | refine DL.w_varL (by with_unfolding_all rfl) ?_ | refine DL.w_varT (by with_unfolding_all rfl) ?_
    | refine DL.w_vwO (by with_unfolding_all rfl) ?_ | (refine DL.w_frzO (by with_unfolding_all rfl) ?_; simp only [List.set_cons_succ, List.set_cons_zero, DL.O.flat])
    | refine DL.w_dcons ?_ | refine DL.w_dconsV ?_ | refine DL.w_darcons ?_ | (refine DL.w_dtup ?_) | refine DL.w_dlst ?_ | refine DL.w_dixO ?_ | refine DL.w_sq ?_ | refine DL.w_dixX ?_ | refine DL.w_listX ?_ | refine DL.w_sorted ?_ | refine DL.w_un ?_ | refine DL.w_sqC ?_ | refine DL.w_forC ?_ | refine DL.op_fldI (by with_unfolding_all rfl) ?_ | refine DL.w_rg ?_ | refine DL.w_rvO ?_ | refine DL.w_dslice ?_ | refine DL.w_dtmc ?_ | refine DL.w_dtupN ?_ | refine DL.w_dlist ?_ | refine DL.w_dtuple ?_ | refine DL.w_tupV ?_ | refine DL.w_listV ?_
    | refine DL.w_bind ?_ | refine DL.w_lift ?_ | refine DL.w_frz ?_ | refine DL.w_vw ?_ | refine DL.w_ow ?_
    | refine DL.w_dand ?_ | refine DL.w_dor ?_ | refine DL.w_dnot ?_ | refine DL.w_dandV ?_ | refine DL.w_dorV ?_ | refine DL.w_dnotV ?_ | refine DL.w_dif ?_
    | refine DL.frzP_im ?_ | refine DL.frzP_new ?_ | refine DL.vwP_im ?_ | refine DL.vwP_new ?_ | refine DL.vwP_bor ?_ | refine DL.owP_im ?_ | refine DL.owP_new ?_ | refine DL.owP_bor ?_
    | (refine DL.setP_im (by with_unfolding_all first | rfl | exact DL.fo_free rfl) ?_; simp only [List.set_cons_succ, List.set_cons_zero, DL.O.flat]) | (refine DL.setP_new (by with_unfolding_all first | rfl | exact DL.fo_free rfl) ?_; simp only [List.set_cons_succ, List.set_cons_zero, DL.O.flat])
    | refine DL.argP_im ?_ | refine DL.argP_new ?_ | refine DL.argP_bor ?_ | refine DL.rvP_im ?_ | refine DL.rvP_new ?_ | refine DL.mvP_im ?_ | refine DL.mvP_new ?_ | (refine DL.mvP_bor (by with_unfolding_all rfl) ?_; simp only [List.set_cons_succ, List.set_cons_zero]) | refine DL.itP_im ?_ | refine DL.itP_new ?_ | refine DL.tuP_lst ?_ | refine DL.blP_of ?_
    | refine DL.op_rng (by with_unfolding_all decide) ?_ | refine DL.op_rngG ?_ | refine DL.op_isiII ?_ | refine DL.op_isiIB ?_ | refine DL.op_isiTT ?_ | refine DL.op_isiLL ?_
    | refine DL.op_eq ?_ | refine DL.op_ne ?_ | refine DL.br_t ?_ | refine DL.br_f ?_ | refine DL.br_not ?_ | refine DL.br_eqT (by with_unfolding_all rfl) ?_ | refine DL.br_eqF (by with_unfolding_all rfl) ?_
    | refine DL.op_mod (by with_unfolding_all decide) ?_ | refine DL.op_div (by with_unfolding_all decide) ?_ | refine DL.op_mul (DL.mul_r (by with_unfolding_all decide)) ?_ | refine DL.op_mul (DL.mul_l (by with_unfolding_all decide)) ?_ | refine DL.op_pow (by with_unfolding_all decide) ?_
    | refine DL.w_seq ?_ | refine DL.w_next ?_ | refine DL.w_if ?_ | refine DL.w_match ?_ | refine DL.pickP_of (by with_unfolding_all decide) ?_ | refine DL.sp_t ?_ | refine DL.sp_f (by with_unfolding_all decide) ?_ | refine DL.sp_n ?_ | refine DL.w_rt ?_ | refine DL.w_set ?_ | refine DL.w_drop ?_ | refine DL.w_app (by with_unfolding_all rfl) ?_ | (refine DL.appP_of (by with_unfolding_all rfl) (by first | assumption | with_unfolding_all exact Nat.le_of_ble_eq_true rfl | (simp only [List.length_append, List.length_map, List.length_cons, List.length_nil]; omega)) ?_; simp only [List.set_cons_succ, List.set_cons_zero, DL.O.flat]) | refine DL.w_forP ?_ | refine DL.w_sforv (by with_unfolding_all rfl) (by with_unfolding_all rfl) ?_ | refine DL.w_asg ?_ | refine DL.w_forV ?_ | refine DL.sqt_if ?_ | refine DL.sqt_rt ?_ | refine DL.sqt_next ?_
    | refine DL.sz (by with_unfolding_all exact Nat.le_of_ble_eq_true rfl) ?_
    | refine DL.outI_im (by with_unfolding_all exact Nat.le_of_ble_eq_true rfl) ?_ | refine DL.outI_new (by with_unfolding_all exact Nat.le_of_ble_eq_true rfl) ?_ | refine DL.outI_bor (by with_unfolding_all exact Nat.le_of_ble_eq_true rfl) (by with_unfolding_all rfl) ?_
    | exact DL.us_next | exact DL.us_bk | exact DL.us_ct | exact DL.us_rtN | refine DL.us_seq ?_ ?_ | refine DL.us_if ?_ ?_ ?_ | refine DL.us_rt ?_ | refine DL.us_drop ?_ | refine DL.us_setI (by decide) ?_
    | exact DL.ud_pure | exact DL.ud_lift | exact DL.ud_xf | exact DL.ud_xi | exact DL.ud_var (by decide) | exact DL.ud_frz (by decide)
    | refine DL.ud_imR ?_ | refine DL.ud_vw ?_ | refine DL.ud_dtup ?_ | refine DL.ud_dlst ?_ | refine DL.ud_dcons ?_ ?_ | refine DL.ud_dconsV ?_ ?_ | refine DL.ud_dbin ?_ ?_ | refine DL.ud_dcmp ?_ ?_ | refine DL.ud_dtB ?_ | refine DL.ud_dtru ?_
    | refine DL.ud_dnot ?_ | refine DL.ud_dand ?_ ?_ | refine DL.ud_dor ?_ ?_ | refine DL.ud_dnotV ?_ | refine DL.ud_dandV ?_ ?_ | refine DL.ud_dorV ?_ ?_ | refine DL.ud_dif ?_ ?_ ?_ | refine DL.ud_imD ?_ | refine DL.ud_fl ?_ | refine DL.ud_dixO ?_ ?_ | refine DL.ud_dixX ?_ ?_ | exact DL.ud_ow (by decide) | exact DL.ud_meth0 (by decide) | (refine DL.ud_bind ?_ fun _ => ?_)
    | refine DL.w_op (by with_unfolding_all rfl) ?_ | rfl)

section
variable {rec : FDen} {x l : List Nat} {d a : Nat}
theorem tf_ok (hx : ok x) (hz : x.length ≤ 900000) (ha : a ≤ x.length) (hl : x.drop a = l) {b : Bool} (h : l.head? = some (if b then 84 else 70)) : FI (fnden 4 (d_read_value rec)) [.str (S x), .int a, .int d] (· = .im (.tup [.bl b, .int (pl x l.tail)])) := by
  have hlen := drop_len hl ha
  have h1 : l.take 1 = [if b then 84 else 70] := take_one.mpr h
  have hp : pl x l.tail = ((a + 1 : Nat) : Int) := by
    have := pl_more (k := 1) hl ha (by cases l with
      | nil => cases h
      | cons c l => rw [List.length_cons]; omega)
    rwa [List.drop_one] at this
  rw [hp]
  refine w_fi ?_
  unfold d_read_value
  show SW _ [some (false, .im _), some (false, .im _), some (false, .im _), none] _
  trivial
  refine op_slice (b := a + 1) (by omega) (by omega) (by omega) ?_
  rw [show a + 1 - a = 1 by omega, hl]
  trivial
  rw [h1]
  cases b
  · trivial
    rw [show (PyData.str (S [if false = true then 84 else 70])).eqv (PyData.str (Str.ofString "T")) = false by decide +kernel]
    rfl
  · trivial
    rw [show (PyData.str (S [if true = true then 84 else 70])).eqv (PyData.str (Str.ofString "T")) = true by decide +kernel]
    rfl
theorem minus_ok (hx : ok x) (hz : x.length ≤ 900000) (ha : a ≤ x.length) (hl : x.drop a = l) (h : l.head? = some 45) : match negR l.tail with
    | .ok v w r => FI (fnden 4 (d_read_value rec)) [.str (S x), .int a, .int d] (· = .im (.tup [v, .int (pl x r)]))
    | .bad r => FE (fnden 4 (d_read_value rec)) [.str (S x), .int a, .int d] (· = xn "BadNotation" (.int (pl x r)))
    | .out => True := by
  have hlen := drop_len hl ha
  have h1 : l.take 1 = [45] := take_one.mpr h
  have ha1 : a + 1 ≤ x.length := by
    cases l with
    | nil => cases h
    | cons c l => rw [List.length_cons] at hlen; omega
  have hn := neg_ok (a := a + 1) hx hz ha1 (by rw [← List.drop_drop, hl, List.drop_one])
  cases e : negR l.tail with
  | out => exact True.intro
  | ok v w r =>
    rw [e] at hn
    dsimp only at hn ⊢
    refine w_fi ?_
    unfold d_read_value
    show SW _ [some (false, .im _), some (false, .im _), some (false, .im _), none] _
    trivial
    refine op_slice (b := a + 1) (by omega) (by omega) (by omega) ?_
    rw [show a + 1 - a = 1 by omega, hl]
    trivial
    rw [h1]
    trivial
    refine w_callI (ds := [.str _, .int _]) hn rfl ?_
    trivial
  | bad r =>
    rw [e] at hn
    dsimp only at hn ⊢
    refine fe_of ?_
    unfold d_read_value
    show SE _ [some (false, .im _), some (false, .im _), some (false, .im _), none] _
    refine se_seqR ?_
    trivial
    refine op_slice (b := a + 1) (by omega) (by omega) (by omega) ?_
    rw [show a + 1 - a = 1 by omega, hl, h1]
    trivial
    refine se_seqR ?_
    trivial
    refine se_seqR ?_
    trivial
    refine se_seqL (se_if ?_)
    trivial
    refine se_rt (ee_bindR ?_)
    trivial
    exact ee_call (ds := [.str _, .int _]) (fe_imp hn fun z hz => ⟨by show 3 ≤ 4; omega, hz⟩) rfl
theorem digit_ok (hx : ok x) (hz : x.length ≤ 900000) (ha : a ≤ x.length) (hl : x.drop a = l) {c : Nat} (h : l.head? = some c) (hc : dig c = true) : match numR l with
    | .ok v w r => FI (fnden 4 (d_read_value rec)) [.str (S x), .int a, .int d] (· = .im (.tup [v, .int (pl x r)]))
    | .bad r => FE (fnden 4 (d_read_value rec)) [.str (S x), .int a, .int d] (· = xn "BadNotation" (.int (pl x r)))
    | .out => True := by
  have hlen := drop_len hl ha
  have h1 : l.take 1 = [c] := take_one.mpr h
  have hlc := dig_lt hc
  have okl : ok [c] := ok_one (by omega)
  have hn := num_ok hx hz ha hl (dg_ne h hc)
  cases e : numR l with
  | out => exact True.intro
  | ok v w r =>
    rw [e] at hn
    dsimp only at hn ⊢
    refine w_fi ?_
    unfold d_read_value
    show SW _ [some (false, .im _), some (false, .im _), some (false, .im _), none] _
    trivial
    refine op_slice (b := a + 1) (by omega) (by omega) (by omega) ?_
    rw [show a + 1 - a = 1 by omega, hl]
    trivial
    rw [h1]
    refine op_eqS (l := [c]) (m := [84]) okl (ok_one (by omega)) ?_
    refine br_dec (fun z => by injection z; omega) (fun _ => ?_)
    trivial
    refine op_eqS (l := [c]) (m := [70]) okl (ok_one (by omega)) ?_
    refine br_dec (fun z => by injection z; omega) (fun _ => ?_)
    trivial
    refine op_eqS (l := [c]) (m := [40]) okl (ok_one (by omega)) ?_
    refine br_dec (fun z => by injection z; omega) (fun _ => ?_)
    trivial
    refine op_eqS (l := [c]) (m := [45]) okl (ok_one (by omega)) ?_
    refine br_dec (fun z => by injection z; omega) (fun _ => ?_)
    trivial
    refine op_neS (l := [c]) (m := []) okl (fun c h => by cases h) ?_
    refine br_dec (fun _ => ?_) (fun z => absurd (fun z => by cases z) z)
    trivial
    refine br_dg ⟨fun _ => ?_, fun z => by rw [hc] at z; cases z⟩
    trivial
    refine w_callI (ds := [.str _, .int _]) hn rfl ?_
    trivial
  | bad r =>
    rw [e] at hn
    dsimp only at hn ⊢
    refine fe_of ?_
    unfold d_read_value
    show SE _ [some (false, .im _), some (false, .im _), some (false, .im _), none] _
    refine se_seqR ?_
    trivial
    refine op_slice (b := a + 1) (by omega) (by omega) (by omega) ?_
    rw [show a + 1 - a = 1 by omega, hl, h1]
    trivial
    refine se_seqR ?_
    trivial
    refine op_eqS (l := [c]) (m := [84]) okl (ok_one (by omega)) ?_
    refine br_dec (fun z => by injection z; omega) (fun _ => ?_)
    trivial
    refine op_eqS (l := [c]) (m := [70]) okl (ok_one (by omega)) ?_
    refine br_dec (fun z => by injection z; omega) (fun _ => ?_)
    trivial
    refine se_seqR ?_
    trivial
    refine op_eqS (l := [c]) (m := [40]) okl (ok_one (by omega)) ?_
    refine br_dec (fun z => by injection z; omega) (fun _ => ?_)
    trivial
    refine se_seqR ?_
    trivial
    refine op_eqS (l := [c]) (m := [45]) okl (ok_one (by omega)) ?_
    refine br_dec (fun z => by injection z; omega) (fun _ => ?_)
    trivial
    refine se_seqL (se_if ?_)
    trivial
    refine op_neS (l := [c]) (m := []) okl (fun c h => by cases h) ?_
    refine br_dec (fun _ => ?_) (fun z => absurd (fun z => by cases z) z)
    trivial
    refine br_dg ⟨fun _ => ?_, fun z => by rw [hc] at z; cases z⟩
    refine se_rt (ee_bindR ?_)
    trivial
    exact ee_call (ds := [.str _, .int _]) (fe_imp hn fun z hz => ⟨by show 3 ≤ 4; omega, hz⟩) rfl
theorem none_ok (hx : ok x) (hz : x.length ≤ 900000) (ha : a ≤ x.length) (hl : x.drop a = l) (h84 : l.head? ≠ some 84) (h70 : l.head? ≠ some 70) (h45 : l.head? ≠ some 45) (hno : ¬ (l.head? = some 40 ∧ d < 12)) (hdg : ∀ c, l.head? = some c → dig c = false) : FE (fnden 4 (d_read_value rec)) [.str (S x), .int a, .int d] (· = xn "BadNotation" (.int (pl x l))) := by
  have hlen := drop_len hl ha
  have okl : ok (l.take 1) := by rw [← hl]; exact take_ok hx 1
  rw [pl_drop hl ha]
  refine fe_of ?_
  unfold d_read_value
  show SE _ [some (false, .im _), some (false, .im _), some (false, .im _), none] _
  refine se_seqR ?_
  trivial
  refine op_slice (b := a + 1) (by omega) (by omega) (by omega) ?_
  rw [show a + 1 - a = 1 by omega, hl]
  trivial
  refine se_seqR ?_
  trivial
  refine op_eqS (m := [84]) okl (ok_one (by omega)) ?_
  refine br_dec (fun z => absurd (take_one.mp z) h84) (fun _ => ?_)
  trivial
  refine op_eqS (m := [70]) okl (ok_one (by omega)) ?_
  refine br_dec (fun z => absurd (take_one.mp z) h70) (fun _ => ?_)
  trivial
  refine se_seqR ?_
  refine w_cut (fun e => e = [some (false, .im (.str (S x))), some (false, .im (.int a)), some (false, .im (.int d)), some (false, .im (.str (S (l.take 1))))]) ?_ ?_
  · trivial
    refine op_eqS (m := [40]) okl (ok_one (by omega)) ?_
    refine br_dec (fun z => ?_) (fun _ => ?_)
    · trivial
      refine br_dec (fun z2 => absurd ⟨take_one.mp z, by omega⟩ hno) (fun _ => ?_)
      trivial
    · trivial
  rintro e rfl
  refine se_seqR ?_
  trivial
  refine op_eqS (m := [45]) okl (ok_one (by omega)) ?_
  refine br_dec (fun z => absurd (take_one.mp z) h45) (fun _ => ?_)
  trivial
  refine se_seqR ?_
  trivial
  refine op_neS (m := []) okl (fun c h => by cases h) ?_
  have fin : SE (sraise "BadNotation" (frz (dvar 1))) [some (false, O.im (D.str (S x))), some (false, O.im (D.int a)), some (false, O.im (D.int d)), some (false, O.im (D.str (S (l.take 1))))] fun z e' => 3 ≤ e'.length ∧ z = xn "BadNotation" (.int a) := by
    refine se_raise ?_
    trivial
    exact ⟨by show 3 ≤ 4; omega, rfl⟩
  refine br_dec (fun z => ?_) (fun z => ?_)
  · obtain ⟨c, hc⟩ : ∃ c, l.head? = some c := by
      cases l with
      | nil => exact absurd rfl z
      | cons c l => exact ⟨c, rfl⟩
    rw [take_one.mpr hc] at fin ⊢
    trivial
    refine br_dg ⟨fun k => (by rw [hdg c hc] at k; cases k), fun _ => ?_⟩
    trivial
    exact fin
  · trivial
    exact fin
theorem empty_ok (hx : ok x) (hz : x.length ≤ 900000) {a : Nat} (h : (x.drop a).head? = some 41) (ha : a ≤ x.length) : FI (f_read_tuple rec) [.str (S x), .int a, .int d] (· = .im (.tup [.tup [], .int ((a + 1 : Nat) : Int)])) := by
  refine w_fi ?_
  unfold d_read_tuple
  show SW _ [some (false, .im _), some (false, .im _), some (false, .im _), none, none, none, none] _
  trivial
  refine op_slice (b := a + 1) (by omega) (by omega) (by omega) ?_
  rw [show a + 1 - a = 1 by omega, take_one.mpr h]
  trivial
  rfl
theorem open_ok (hx : ok x) (hz : x.length ≤ 900000) (ha : a ≤ x.length) (hl : x.drop a = l) (h : l.head? = some 40) (hd : d < 12) {v : D} (ht : FI (f_read_tuple rec) [.str (S x), .int ((a + 1 : Nat) : Int), .int ((d + 1 : Nat) : Int)] (· = .im v)) : FI (fnden 4 (d_read_value rec)) [.str (S x), .int a, .int d] (· = .im v) := by
  have hlen := drop_len hl ha
  have h1 : l.take 1 = [40] := take_one.mpr h
  refine w_fi ?_
  unfold d_read_value
  show SW _ [some (false, .im _), some (false, .im _), some (false, .im _), none] _
  trivial
  refine op_slice (b := a + 1) (by omega) (by omega) (by omega) ?_
  rw [show a + 1 - a = 1 by omega, hl]
  trivial
  rw [h1]
  trivial
  refine br_dec (fun _ => ?_) (fun z => by omega)
  trivial
  refine w_callI (ds := [.str _, .int _, .int _]) ht rfl ?_
  trivial
theorem open_bad (hx : ok x) (hz : x.length ≤ 900000) (ha : a ≤ x.length) (hl : x.drop a = l) (h : l.head? = some 40) (hd : d < 12) {r : List Nat} (ht : FE (f_read_tuple rec) [.str (S x), .int ((a + 1 : Nat) : Int), .int ((d + 1 : Nat) : Int)] (· = xn "BadNotation" (.int (pl x r)))) : FE (fnden 4 (d_read_value rec)) [.str (S x), .int a, .int d] (· = xn "BadNotation" (.int (pl x r))) := by
  have hlen := drop_len hl ha
  have h1 : l.take 1 = [40] := take_one.mpr h
  refine fe_of ?_
  unfold d_read_value
  show SE _ [some (false, .im _), some (false, .im _), some (false, .im _), none] _
  refine se_seqR ?_
  trivial
  refine op_slice (b := a + 1) (by omega) (by omega) (by omega) ?_
  rw [show a + 1 - a = 1 by omega, hl, h1]
  trivial
  refine se_seqR ?_
  trivial
  refine se_seqL (se_if ?_)
  trivial
  refine br_dec (fun _ => ?_) (fun z => by omega)
  refine se_rt (ee_bindR ?_)
  trivial
  exact ee_call (ds := [.str _, .int _, .int _]) (fe_imp ht fun z hz => ⟨by show 3 ≤ 4; omega, hz⟩) rfl
theorem atom_pv (hx : ok x) (hz : x.length ≤ 900000) (ha : a ≤ x.length) (hl : x.drop a = l) (hno : ¬ (l.head? = some 40 ∧ d < 12)) : match atom l with
    | .ok v w r => FI (fnden 4 (d_read_value rec)) [.str (S x), .int a, .int d] (· = .im (.tup [v, .int (pl x r)]))
    | .bad r => FE (fnden 4 (d_read_value rec)) [.str (S x), .int a, .int d] (· = xn "BadNotation" (.int (pl x r)))
    | .out => True := by
  cases l with
  | nil => exact none_ok hx hz ha hl (by simp) (by simp) (by simp) hno (fun c h => by cases h)
  | cons c q =>
    unfold atom
    dsimp only
    by_cases h84 : c = 84
    · rw [if_pos h84]
      exact tf_ok (b := true) hx hz ha hl (by rw [h84]; rfl)
    rw [if_neg h84]
    by_cases h70 : c = 70
    · rw [if_pos h70]
      exact tf_ok (b := false) hx hz ha hl (by rw [h70]; rfl)
    rw [if_neg h70]
    by_cases h45 : c = 45
    · rw [if_pos h45]
      exact minus_ok hx hz ha hl (by rw [h45]; rfl)
    rw [if_neg h45]
    by_cases hc : dig c = true
    · rw [if_pos hc]
      exact digit_ok hx hz ha hl rfl hc
    · rw [if_neg hc]
      exact none_ok hx hz ha hl (fun z => h84 (Option.some.inj z)) (fun z => h70 (Option.some.inj z)) (fun z => h45 (Option.some.inj z)) hno (fun d z => by cases z; simpa using hc)
end
theorem value_ok {x : List Nat} (hx : ok x) (hz : x.length ≤ 900000) (n : Nat) : ∀ d j, d ≤ 12 → 12 - d < j → PV (f_read_value j) x d (V n d) := by
  induction n using Nat.strongRecOn with
  | _ n ih =>
    intro d j hd hj a ha
    obtain ⟨j, rfl⟩ : ∃ i, j = i + 1 := ⟨j - 1, by omega⟩
    cases n with
    | zero => exact True.intro
    | succ n =>
      rw [V_succ]
      unfold RDT.stepV
      by_cases hc : (x.drop a).head? = some 40 ∧ d < 12
      · rw [if_pos hc]
        obtain ⟨h40, hd12⟩ := hc
        have hlen := drop_len (l := x.drop a) rfl ha
        have ha1 : a + 1 ≤ x.length := by
          cases e : x.drop a with
          | nil => rw [e] at h40; cases h40
          | cons c q => rw [e, List.length_cons] at hlen; omega
        have htl : x.drop (a + 1) = (x.drop a).tail := by rw [← List.drop_drop, List.drop_one]
        by_cases h41 : (x.drop a).tail.head? = some 41
        · rw [if_pos h41]
          dsimp only
          have ha2 : a + 2 ≤ x.length := by
            have hlen2 := drop_len htl ha1
            cases e : (x.drop a).tail with
            | nil => rw [e] at h41; cases h41
            | cons c q => rw [e, List.length_cons] at hlen2; omega
          have hp : pl x (x.drop a).tail.tail = ((a + 1 + 1 : Nat) : Int) := by
            have := pl_more (k := 1) htl ha1 (by cases e : (x.drop a).tail with
              | nil => rw [e] at h41; cases h41
              | cons c q => rw [List.length_cons]; omega)
            rwa [List.drop_one] at this
          rw [hp]
          exact open_ok hx hz ha rfl h40 hd12 (empty_ok (a := a + 1) hx hz (by rw [htl]; exact h41) ha1)
        · rw [if_neg h41]
          have ht := tuple_ok (rec := f_read_value j) (d := d + 1) (n := n) hx hz (by omega) (fun m hm => ih m (by omega) (d + 1) j (by omega) (by omega)) (a + 1) ha1 (by rw [htl]; exact h41)
          rw [htl] at ht
          cases e : I n (d + 1) (x.drop a).tail with
          | out => exact True.intro
          | ok ps r =>
            rw [e] at ht
            exact open_ok hx hz ha rfl h40 hd12 ht
          | bad r =>
            rw [e] at ht
            exact open_bad hx hz ha rfl h40 hd12 ht
      · rw [if_neg hc]
        exact atom_pv hx hz ha rfl hc
end K73

namespace K73
open PySem DL TOK NTN RDT
local macro_rules
  | `(tactic| trivial) => `(tactic| repeat' with_reducible first
    | refine DL.w_pure ?_ | refine DL.w_dq ?_ | refine DL.w_imR ?_ | refine DL.w_imD ?_ | refine DL.w_fl ?_ | refine DL.w_bin ?_ | refine DL.w_cmp ?_ | refine DL.w_rev ?_ | refine DL.w_cat ?_ | refine DL.w_chain ?_ | refine DL.w_dtB ?_ | refine DL.w_dtru ?_
    | refine DL.w_frzI (by with_unfolding_all rfl) ?_ | refine DL.w_vwI (by with_unfolding_all rfl) ?_ | refine DL.w_owO (by with_unfolding_all rfl) ?_ | refine DL.w_varI (by with_unfolding_all rfl) ?_ | refine DL.w_varL (by with_unfolding_all rfl) ?_ | refine DL.w_varT (by with_unfolding_all rfl) ?_
    | refine DL.w_vwO (by with_unfolding_all rfl) ?_ | (refine DL.w_frzO (by with_unfolding_all rfl) ?_; simp only [List.set_cons_succ, List.set_cons_zero, DL.O.flat])
    | refine DL.w_dcons ?_ | refine DL.w_dconsV ?_ | refine DL.w_darcons ?_ | (refine DL.w_dtup ?_) | refine DL.w_dlst ?_ | refine DL.w_dixO ?_ | refine DL.w_sq ?_ | refine DL.w_dixX ?_ | refine DL.w_listX ?_ | refine DL.w_sorted ?_ | refine DL.w_un ?_ | refine DL.w_sqC ?_ | refine DL.w_forC ?_ | refine DL.op_fldI (by with_unfolding_all rfl) ?_ | refine DL.w_rg ?_ | refine DL.w_rvO ?_ | refine DL.w_dslice ?_ | refine DL.w_dtmc ?_ | refine DL.w_dtupN ?_ | refine DL.w_dlist ?_ | refine DL.w_dtuple ?_ | refine DL.w_tupV ?_ | refine DL.w_listV ?_
    | refine DL.w_bind ?_ | refine DL.w_lift ?_ | refine DL.w_frz ?_ | refine DL.w_vw ?_ | refine DL.w_ow ?_
    | refine DL.w_dand ?_ | refine DL.w_dor ?_ | refine DL.w_dnot ?_ | refine DL.w_dandV ?_ | refine DL.w_dorV ?_ | refine DL.w_dnotV ?_ | refine DL.w_dif ?_
    | refine DL.frzP_im ?_ | refine DL.frzP_new ?_ | refine DL.vwP_im ?_ | refine DL.vwP_new ?_ | refine DL.vwP_bor ?_ | refine DL.owP_im ?_ | refine DL.owP_new ?_ | refine DL.owP_bor ?_
    | (refine DL.setP_im (by with_unfolding_all first | rfl | exact DL.fo_free rfl) ?_; simp only [List.set_cons_succ, List.set_cons_zero, DL.O.flat]) | (refine DL.setP_new (by with_unfolding_all first | rfl | exact DL.fo_free rfl) ?_; simp only [List.set_cons_succ, List.set_cons_zero, DL.O.flat])
    | refine DL.argP_im ?_ | refine DL.argP_new ?_ | refine DL.argP_bor ?_ | refine DL.rvP_im ?_ | refine DL.rvP_new ?_ | refine DL.mvP_im ?_ | refine DL.mvP_new ?_ | (refine DL.mvP_bor (by with_unfolding_all rfl) ?_; simp only [List.set_cons_succ, List.set_cons_zero]) | refine DL.itP_im ?_ | refine DL.itP_new ?_ | refine DL.tuP_lst ?_ | refine DL.blP_of ?_
    | refine DL.op_rng (by with_unfolding_all decide) ?_ | refine DL.op_rngG ?_ | refine DL.op_isiII ?_ | refine DL.op_isiIB ?_ | refine DL.op_isiTT ?_ | refine DL.op_isiLL ?_
    | refine DL.op_eq ?_ | refine DL.op_ne ?_ | refine DL.br_t ?_ | refine DL.br_f ?_ | refine DL.br_not ?_ | refine DL.br_eqT (by with_unfolding_all rfl) ?_ | refine DL.br_eqF (by with_unfolding_all rfl) ?_
    | refine DL.op_mod (by with_unfolding_all decide) ?_ | refine DL.op_div (by with_unfolding_all decide) ?_ | refine DL.op_mul (DL.mul_r (by with_unfolding_all decide)) ?_ | refine DL.op_mul (DL.mul_l (by with_unfolding_all decide)) ?_ | refine DL.op_pow (by with_unfolding_all decide) ?_
    | refine DL.w_seq ?_ | refine DL.w_next ?_ | refine DL.w_if ?_ | refine DL.w_match ?_ | refine DL.pickP_of (by with_unfolding_all decide) ?_ | refine DL.sp_t ?_ | refine DL.sp_f (by with_unfolding_all decide) ?_ | refine DL.sp_n ?_ | refine DL.w_rt ?_ | refine DL.w_set ?_ | refine DL.w_drop ?_ | refine DL.w_app (by with_unfolding_all rfl) ?_ | (refine DL.appP_of (by with_unfolding_all rfl) (by first | assumption | with_unfolding_all exact Nat.le_of_ble_eq_true rfl | (simp only [List.length_append, List.length_map, List.length_cons, List.length_nil]; omega)) ?_; simp only [List.set_cons_succ, List.set_cons_zero, DL.O.flat]) | refine DL.w_forP ?_ | refine DL.w_sforv (by with_unfolding_all rfl) (by with_unfolding_all rfl) ?_ | refine DL.w_asg ?_ | refine DL.w_forV ?_ | refine DL.sqt_if ?_ | refine DL.sqt_rt ?_ | refine DL.sqt_next ?_
    | refine DL.sz (by with_unfolding_all exact Nat.le_of_ble_eq_true rfl) ?_
    | refine DL.outI_im (by with_unfolding_all exact Nat.le_of_ble_eq_true rfl) ?_ | refine DL.outI_new (by with_unfolding_all exact Nat.le_of_ble_eq_true rfl) ?_ | refine DL.outI_bor (by with_unfolding_all exact Nat.le_of_ble_eq_true rfl) (by with_unfolding_all rfl) ?_
    | exact DL.us_next | exact DL.us_bk | exact DL.us_ct | exact DL.us_rtN | refine DL.us_seq ?_ ?_ | refine DL.us_if ?_ ?_ ?_ | refine DL.us_rt ?_ | refine DL.us_drop ?_ | refine DL.us_setI (by decide) ?_
    | exact DL.ud_pure | exact DL.ud_lift | exact DL.ud_xf | exact DL.ud_xi | exact DL.ud_var (by decide) | exact DL.ud_frz (by decide)
    | refine DL.ud_imR ?_ | refine DL.ud_vw ?_ | refine DL.ud_dtup ?_ | refine DL.ud_dlst ?_ | refine DL.ud_dcons ?_ ?_ | refine DL.ud_dconsV ?_ ?_ | refine DL.ud_dbin ?_ ?_ | refine DL.ud_dcmp ?_ ?_ | refine DL.ud_dtB ?_ | refine DL.ud_dtru ?_
    | refine DL.ud_dnot ?_ | refine DL.ud_dand ?_ ?_ | refine DL.ud_dor ?_ ?_ | refine DL.ud_dnotV ?_ | refine DL.ud_dandV ?_ ?_ | refine DL.ud_dorV ?_ ?_ | refine DL.ud_dif ?_ ?_ ?_ | refine DL.ud_imD ?_ | refine DL.ud_fl ?_ | refine DL.ud_dixO ?_ ?_ | refine DL.ud_dixX ?_ ?_ | exact DL.ud_ow (by decide) | exact DL.ud_meth0 (by decide) | (refine DL.ud_bind ?_ fun _ => ?_)
    | refine DL.w_op (by with_unfolding_all rfl) ?_ | rfl)

theorem read_ok {x : List Nat} (hx : ok x) (hz : x.length ≤ 900000) : ∃ res, LawR x 0 res ∧ match res with
    | none => ∃ v, FI f_read [.str (S x)] (· = .im v) ∧ Wr 12 v x
    | some r => FE f_read [.str (S x)] (· = xn "BadNotation" (.int (pl x r))) := by
  have hin := (VI_in (2 * x.length + 1)).1 0 x hx (by omega) (Nat.le_refl _)
  have hv := value_ok hx hz (2 * x.length + 1) 0 20 (by omega) (by omega) 0 (Nat.zero_le _)
  obtain ⟨l1, l2⟩ := (VI_law (2 * x.length + 1)).1 0 x (by omega)
  rw [List.drop_zero] at hv
  cases e : V (2 * x.length + 1) 0 x with
  | out => exact absurd e hin
  | bad r =>
    rw [e] at hv
    refine ⟨some r, l1 r e, ?_⟩
    refine fe_of ?_
    unfold d_read
    show SE _ [some (false, .im _), none, none] _
    refine se_seqL ?_
    show SE (sbind _ _) _ _
    refine se_bindL (ee_frz (ee_bindR ?_))
    trivial
    exact ee_call (ds := [.str _, .int 0, .int 0]) (fe_imp hv fun z hz => ⟨by show 1 ≤ 3; omega, hz⟩) rfl
  | ok v w r =>
    rw [e] at hv
    obtain ⟨k1, k2⟩ := (VI_ok _).1 _ _ _ _ _ hx (by omega) e
    cases r with
    | nil =>
      refine ⟨none, l2 v w [] e none (.inl ⟨rfl, rfl⟩), v, ?_, ?_⟩
      · have hp : pl x [] = (x.length : Int) := rfl
        dsimp only at hv
        rw [hp] at hv
        refine w_fi ?_
        unfold d_read
        show SW _ [some (false, .im _), none, none] _
        trivial
        refine w_callI (ds := [.str _, .int 0, .int 0]) hv rfl ?_
        trivial
        refine op_lenS (by omega) ?_
        trivial
        refine br_dec (fun _ => ?_) (fun z => absurd rfl z)
        trivial
      · rw [List.append_nil] at k1
        rw [k1]
        exact k2
    | cons c r =>
      have hlw := congrArg List.length k1
      rw [List.length_append, List.length_cons] at hlw
      have hp : pl x (c :: r) ≠ (x.length : Int) := by unfold pl; rw [List.length_cons]; omega
      refine ⟨some (c :: r), l2 v w (c :: r) e _ (.inr (.inl ⟨c :: r, 0, rfl, .inl rfl, fun z => (nomatch z.2), rfl⟩)), ?_⟩
      refine fe_of ?_
      unfold d_read
      show SE _ [some (false, .im _), none, none] _
      refine se_seqR ?_
      trivial
      refine w_callI (ds := [.str _, .int 0, .int 0]) hv rfl ?_
      trivial
      refine se_seqL (se_if ?_)
      trivial
      refine op_lenS (by omega) ?_
      trivial
      refine br_dec (fun z => absurd z hp) (fun _ => ?_)
      refine se_raise ?_
      trivial
      exact ⟨by show 1 ≤ 3; omega, rfl⟩
/-- what the law's own look at an atom says -/
def atR (x : List Nat) : RDT.Res → Int
  | .ok _ _ r => pl x r
  | .bad r => -1 - pl x r
  | .out => 0
theorem atom_end_ok {x l : List Nat} {a : Nat} (hx : ok x) (hz : x.length ≤ 900000) (ha : a ≤ x.length) (hl : x.drop a = l) : FI f__law_atom_end [.str (S x), .int a] (· = .im (.int (atR x (atom l)))) := by
  have hlen := drop_len hl ha
  have okl : ok (l.take 1) := by rw [← hl]; exact take_ok hx 1
  have hat : (x.drop a).take (a + 1 - a) = l.take 1 := by rw [hl, show a + 1 - a = 1 by omega]
  refine w_fi ?_
  unfold d__law_atom_end
  show SW _ [some (false, .im _), some (false, .im _), none, none, none] _
  by_cases hT : l.head? = some 84 ∨ l.head? = some 70
  · have hres : atR x (atom l) = ((a + 1 : Nat) : Int) := by
      cases l with
      | nil => rcases hT with h | h <;> cases h
      | cons c q =>
        have hq : pl x q = ((a + 1 : Nat) : Int) := by
          have := pl_more (k := 1) hl ha (by rw [List.length_cons]; omega)
          exact this
        rcases hT with h | h <;> cases h <;> exact hq
    rw [hres]
    refine w_seq ?_
    trivial
    refine op_slice (b := a + 1) (by omega) (by omega) (by omega) ?_
    rw [hat]
    trivial
    refine op_eqS (m := [84]) okl (ok_one (by omega)) ?_
    refine br_dec (fun h => ?_) (fun h => ?_)
    · trivial
      rfl
    have h70 := hT.resolve_left (fun z => h (take_one.mpr z))
    trivial
    refine op_slice (b := a + 1) (by omega) (by omega) (by omega) ?_
    rw [hat, take_one.mpr h70]
    trivial
    rfl
  refine w_seqM (fun e => e = [some (false, .im (.str (S x))), some (false, .im (.int a)), none, none, none]) ?_ ?_
  · trivial
    refine op_slice (b := a + 1) (by omega) (by omega) (by omega) ?_
    rw [hat]
    trivial
    refine op_eqS (m := [84]) okl (ok_one (by omega)) ?_
    refine br_dec (fun h => absurd (.inl (take_one.mp h)) hT) (fun h => ?_)
    trivial
    refine op_slice (b := a + 1) (by omega) (by omega) (by omega) ?_
    rw [hat]
    trivial
    refine op_eqS (m := [70]) okl (ok_one (by omega)) ?_
    refine br_dec (fun h => absurd (.inr (take_one.mp h)) hT) (fun h => ?_)
    trivial
  rintro e rfl
  refine w_seqM (fun e => e = [some (false, .im (.str (S x))), some (false, .im (.int a)), some (false, .im (.int a)), none, none]) ?_ ?_
  · trivial
  rintro e rfl
  refine w_seqM (fun e => ∃ st : Nat, e = [some (false, .im (.str (S x))), some (false, .im (.int a)), some (false, .im (.int st)), none, none] ∧ ((l.head? = some 45 ∧ st = a + 1) ∨ (l.head? ≠ some 45 ∧ st = a))) ?_ ?_
  · trivial
    refine op_slice (b := a + 1) (by omega) (by omega) (by omega) ?_
    rw [hat]
    trivial
    refine op_eqS (m := [45]) okl (ok_one (by omega)) ?_
    refine br_dec (fun h => ?_) (fun h => ?_)
    · trivial
      exact ⟨a + 1, rfl, .inl ⟨take_one.mp h, rfl⟩⟩
    · trivial
      exact ⟨a, rfl, .inr ⟨fun z => h (take_one.mpr z), rfl⟩⟩
  rintro e ⟨st, rfl, hst⟩
  refine w_seqM (fun e => e = [some (false, .im (.str (S x))), some (false, .im (.int a)), some (false, .im (.int st)), some (false, .im (.int st)), none]) ?_ ?_
  · trivial
  rintro e rfl
  have hsx : st ≤ x.length := by
    rcases hst with ⟨h, rfl⟩ | ⟨_, rfl⟩
    · cases l with
      | nil => cases h
      | cons c l => rw [List.length_cons] at hlen; omega
    · exact ha
  obtain ⟨l', hl'⟩ : ∃ l', x.drop st = l' := ⟨_, rfl⟩
  have hlen' := drop_len hl' hsx
  have hdl := dg_len l'
  have h60 := dg_60 l'
  refine w_seqM (fun e => ∃ s4, e = [some (false, .im (.str (S x))), some (false, .im (.int a)), some (false, .im (.int st)), some (false, .im (.int ((st + (dg l').length : Nat) : Int))), fo s4]) ?_ ?_
  · trivial
    refine sw_range (n := 60) (fun i e => ∃ s4, e = [some (false, .im (.str (S x))), some (false, .im (.int a)), some (false, .im (.int st)), some (false, .im (.int ((st + i : Nat) : Int))), fo s4] ∧ i ≤ (dg l').length) ⟨none, rfl, Nat.zero_le _⟩ ?_ ?_
    · rintro i e hi ⟨s4, rfl, hi2⟩
      refine ⟨_, if_pos (fo_free rfl), ?_⟩
      simp only [List.set_cons_succ, List.set_cons_zero]
      trivial
      refine op_lenS (by omega) ?_
      trivial
      refine br_dec (fun h => ?_) (fun h => ?_)
      · trivial
        exact ⟨_, rfl, some (.im (.int (i : Int))), by rw [show (dg l').length = i by omega]; rfl⟩
      have hlt : st + i < x.length := by omega
      have hat2 : x[st + i]? = l'[i]? := by rw [← hl', List.getElem?_drop]
      rw [List.getElem?_eq_getElem hlt] at hat2
      trivial
      refine op_at hlt (by omega) ?_
      trivial
      have d48 : l'.head? = some 48 → (dg l').length = 1 := fun z => by unfold dg; rw [if_pos z]; rfl
      have hi60 : i < 60 := hi
      refine br_dg ⟨fun hc => ?_, fun hc => ?_⟩
      · have nxt : (l'.head? ≠ some 48 ∨ i ≠ 1) → i + 1 ≤ (dg l').length := fun z => by
          by_cases z48 : l'.head? = some 48
          · have := d48 z48
            have := z.resolve_left (fun k => k z48)
            omega
          · refine Classical.byContradiction fun k => ?_
            have e1 : i = (dg l').length := by omega
            have e2 : l'[(dg l').length]? = some x[st + i] := by rw [← e1]; exact hat2.symm
            have := dg_stop z48 (by omega) e2
            rw [this] at hc
            cases hc
        trivial
        refine br_dec (fun h1 => ?_) (fun h1 => ?_)
        · have hi1 : i = 1 := by omega
          obtain ⟨c0, hc0⟩ : ∃ c0, l'.head? = some c0 := by
            cases l' with
            | nil => rw [List.length_nil] at hlen'; omega
            | cons c0 l' => exact ⟨c0, rfl⟩
          have hc0x : c0 < 128 := hx c0 (List.mem_of_getElem? (head_at hl' hc0))
          trivial
          refine op_at2 (head_at hl' hc0) (by omega) ?_
          trivial
          refine op_eqS (l := [c0]) (m := [48]) (ok_one hc0x) (ok_one (by omega)) ?_
          refine br_dec (fun h2 => ?_) (fun h2 => ?_)
          · trivial
            have := d48 (by rw [hc0]; injection h2 with h2; rw [h2])
            exact ⟨_, rfl, some (.im (.int (i : Int))), by rw [show (dg l').length = i by omega]; rfl⟩
          · trivial
            exact ⟨some (.im (.int (i : Int))), rfl, nxt (.inl fun z => h2 (by rw [hc0] at z; cases z; rfl))⟩
        · trivial
          exact ⟨some (.im (.int (i : Int))), rfl, nxt (.inr fun z => h1 (by omega))⟩
      · trivial
        have : (dg l').length = i := by
          refine Classical.byContradiction fun k => ?_
          rw [dg_at (show i < (dg l').length by omega) hat2.symm] at hc
          cases hc
        exact ⟨_, rfl, some (.im (.int (i : Int))), by rw [this]; rfl⟩
    · rintro e ⟨s4, rfl, hi2⟩
      have : (60 : Int).toNat = 60 := rfl
      exact ⟨s4, by rw [show (dg l').length = (60 : Int).toNat by omega]⟩
  rintro e ⟨s4, rfl⟩
  rcases hst with ⟨h45, rfl⟩ | ⟨h45, rfl⟩
  · have el : l = 45 :: l' := by
      rw [← hl', ← List.drop_drop, hl, List.drop_one]
      cases l with
      | nil => cases h45
      | cons c q => cases h45; rfl
    have ea : atom l = negR l' := by rw [el]; rfl
    have hpl : pl x l' = ((a + 1 : Nat) : Int) := pl_drop hl' hsx
    rw [ea]
    unfold negR
    by_cases h : dg l' = [] ∨ l'.head? = some 48
    · rw [if_pos h]
      show SW _ _ ⟨_, fun r e => outI _ (fun z => z = FRv.im (D.int (-1 - pl x l'))) r e, _, _⟩
      rw [hpl]
      refine w_seq ?_
      trivial
      refine br_dec (fun h1 => ?_) (fun h1 => ?_)
      · trivial
      have hne : dg l' ≠ [] := fun z => h1 (by rw [z]; rfl)
      have h48 := h.resolve_left hne
      trivial
      refine br_dec (fun h2 => ?_) (fun h2 => by omega)
      trivial
      refine op_at2 (head_at hl' h48) (by omega) ?_
      trivial
    · rw [if_neg h]
      have hne : dg l' ≠ [] := fun z => h (.inl z)
      have hpos := List.length_pos_iff.mpr hne
      obtain ⟨c, hc⟩ : ∃ c, l'.head? = some c := by
        cases l' with
        | nil =>
          have h0 : (dg []).length ≤ 0 := hdl
          omega
        | cons c l => exact ⟨c, rfl⟩
      have hcx : c < 128 := hx c (List.mem_of_getElem? (head_at hl' hc))
      show SW _ _ ⟨_, fun r e => outI _ (fun z => z = FRv.im (D.int (pl x (l'.drop (dg l').length)))) r e, _, _⟩
      rw [pl_more hl' hsx hdl]
      trivial
      refine br_dec (fun h1 => by omega) (fun h1 => ?_)
      trivial
      refine br_dec (fun h2 => ?_) (fun h2 => by omega)
      trivial
      refine op_at2 (head_at hl' hc) (by omega) ?_
      trivial
      refine op_eqS (l := [c]) (m := [48]) (ok_one hcx) (ok_one (by omega)) ?_
      refine br_dec (fun z => absurd (by rw [hc]; injection z with z; rw [z]) (fun k => h (.inr k))) (fun z => ?_)
      trivial
      refine br_dec (fun h2 => ?_) (fun h2 => by omega)
      trivial
  · have el : l' = l := by rw [← hl', hl]
    subst el
    by_cases hne : dg l' = []
    · have ea : atom l' = .bad l' := by
        cases l' with
        | nil => rfl
        | cons c q =>
          unfold atom
          dsimp only
          rw [if_neg (fun z => hT (.inl (by rw [z]; rfl))), if_neg (fun z => hT (.inr (by rw [z]; rfl))), if_neg (fun z => h45 (by rw [z]; rfl)), if_neg (fun z => dg_ne rfl z hne)]
      rw [ea]
      show SW _ _ ⟨_, fun r e => outI _ (fun z => z = FRv.im (D.int (-1 - pl x l'))) r e, _, _⟩
      rw [pl_drop hl' hsx, hne]
      refine w_seq ?_
      trivial
      refine br_dec (fun h1 => ?_) (fun h1 => absurd rfl h1)
      trivial
    · have hpos := List.length_pos_iff.mpr hne
      have hok := dg_ok hne
      have ea : atom l' = numR l' := by
        cases l' with
        | nil => exact absurd rfl hne
        | cons c q =>
          have hc : dig c = true := by
            have h1 := dg_head hne
            have h2 : c ∈ dg (c :: q) := by
              cases e : dg (c :: q) with
              | nil => exact absurd e hne
              | cons d t => rw [e] at h1; cases h1; exact List.mem_cons_self
            exact dg_dig h2
          unfold atom
          dsimp only
          rw [if_neg (fun z => hT (.inl (by rw [z]; rfl))), if_neg (fun z => hT (.inr (by rw [z]; rfl))), if_neg (fun z => h45 (by rw [z]; rfl)), if_pos hc]
      rw [ea]
      have hr : x.drop (st + (dg l').length) = l'.drop (dg l').length := by rw [← List.drop_drop, hl']
      have okr : ok ((l'.drop (dg l').length).take 1) := by rw [← hr]; exact take_ok hx 1
      have hcut : (x.drop st).take (st + (dg l').length - st) = dg l' := by rw [hl', show st + (dg l').length - st = (dg l').length by omega, ← dg_pre l']
      unfold numR
      by_cases h : val (dg l') > 1000 ∨ (l'.drop (dg l').length).head? ≠ some 58
      · rw [if_pos h]
        show SW _ _ ⟨_, fun r e => outI _ (fun z => z = FRv.im (D.int (pl x (l'.drop (dg l').length)))) r e, _, _⟩
        rw [pl_more hl' hsx hdl]
        trivial
        refine br_dec (fun h1 => by omega) (fun h1 => ?_)
        trivial
        refine br_dec (fun h2 => by omega) (fun h2 => ?_)
        trivial
        refine br_dec (fun h2 => by omega) (fun h2 => ?_)
        trivial
        refine op_slice (b := st + (dg l').length + 1) (by omega) (by omega) (by omega) ?_
        rw [hr, show st + (dg l').length + 1 - (st + (dg l').length) = 1 by omega]
        trivial
        refine op_neS (m := [58]) okr (ok_one (by omega)) ?_
        refine br_dec (fun h2 => ?_) (fun h2 => ?_)
        · trivial
        have hv := h.resolve_right (fun z => z (take_one.mp (Classical.not_not.mp h2)))
        trivial
        refine op_slice (b := st + (dg l').length) (by omega) (by omega) rfl ?_
        rw [hcut]
        trivial
        refine op_intD hok ?_
        trivial
        refine br_dec (fun h2 => ?_) (fun h2 => by omega)
        trivial
      · rw [if_neg h]
        have hv : ¬ val (dg l') > 1000 := fun z => h (.inl z)
        have h58 : (l'.drop (dg l').length).head? = some 58 := Classical.byContradiction fun z => h (.inr z)
        have hq : l'.drop (dg l').length = 58 :: (l'.drop (dg l').length).tail := by
          cases e : l'.drop (dg l').length with
          | nil => rw [e] at h58; cases h58
          | cons c q => rw [e] at h58; cases h58; rfl
        have hlq := congrArg List.length hq
        rw [List.length_drop, List.length_cons] at hlq
        have t58 : (l'.drop (dg l').length).take 1 = [58] := by rw [hq]; rfl
        refine w_seq ?_
        trivial
        refine br_dec (fun h1 => by omega) (fun h1 => ?_)
        trivial
        refine br_dec (fun h2 => by omega) (fun h2 => ?_)
        trivial
        refine br_dec (fun h2 => by omega) (fun h2 => ?_)
        trivial
        refine op_slice (b := st + (dg l').length + 1) (by omega) (by omega) (by omega) ?_
        rw [hr, show st + (dg l').length + 1 - (st + (dg l').length) = 1 by omega, t58]
        trivial
        refine op_slice (b := st + (dg l').length) (by omega) (by omega) rfl ?_
        rw [hcut]
        trivial
        refine op_intD hok ?_
        trivial
        refine br_dec (fun h2 => by omega) (fun h2 => ?_)
        trivial
        refine op_slice (b := st + (dg l').length) (by omega) (by omega) rfl ?_
        rw [hcut]
        trivial
        refine op_intD hok ?_
        trivial
        refine op_lenS (by omega) ?_
        trivial
        by_cases hb : (l'.drop (dg l').length).tail.length < val (dg l')
        · refine br_dec (fun h2 => ?_) (fun h2 => by omega)
          rw [if_pos hb]
          trivial
          refine op_lenS (by omega) ?_
          trivial
          show FRv.im (D.int (-1 - (x.length : Int))) = FRv.im (D.int (-1 - pl x []))
          rfl
        · refine br_dec (fun h2 => by omega) (fun h2 => ?_)
          rw [if_neg hb]
          trivial
          refine op_slice (b := st + (dg l').length) (by omega) (by omega) rfl ?_
          rw [hcut]
          trivial
          refine op_intD hok ?_
          trivial
          show FRv.im (D.int _) = FRv.im (D.int (pl x (List.drop (val (dg l')) (List.drop (dg l').length l').tail)))
          rw [show pl x (List.drop (val (dg l')) (List.drop (dg l').length l').tail) = ((st + (dg l').length : Nat) : Int) + 1 + (val (dg l') : Int) from by unfold pl; rw [List.length_drop]; omega]
end K73

namespace K73
open PySem DL TOK NTN RDT
local macro_rules
  | `(tactic| trivial) => `(tactic| repeat' with_reducible first
    | refine DL.w_pure ?_ | refine DL.w_dq ?_ | refine DL.w_imR ?_ | refine DL.w_imD ?_ | refine DL.w_fl ?_ | refine DL.w_bin ?_ | refine DL.w_cmp ?_ | refine DL.w_rev ?_ | refine DL.w_cat ?_ | refine DL.w_chain ?_ | refine DL.w_dtB ?_ | refine DL.w_dtru ?_
    | refine DL.w_frzI (by with_unfolding_all rfl) ?_ | refine DL.w_vwI (by with_unfolding_all rfl) ?_ | refine DL.w_owO (by with_unfolding_all rfl) ?_ | refine DL.w_varI (by with_unfolding_all rfl) ?_ | refine DL.w_varL (by with_unfolding_all rfl) ?_ | refine DL.w_varT (by with_unfolding_all rfl) ?_
    | refine DL.w_vwO (by with_unfolding_all rfl) ?_ | (refine DL.w_frzO (by with_unfolding_all rfl) ?_; simp only [List.set_cons_succ, List.set_cons_zero, DL.O.flat])
    | refine DL.w_dcons ?_ | refine DL.w_dconsV ?_ | refine DL.w_darcons ?_ | (refine DL.w_dtup ?_) | refine DL.w_dlst ?_ | refine DL.w_dixO ?_ | refine DL.w_sq ?_ | refine DL.w_dixX ?_ | refine DL.w_listX ?_ | refine DL.w_sorted ?_ | refine DL.w_un ?_ | refine DL.w_sqC ?_ | refine DL.w_forC ?_ | refine DL.op_fldI (by with_unfolding_all rfl) ?_ | refine DL.w_rg ?_ | refine DL.w_rvO ?_ | refine DL.w_dslice ?_ | refine DL.w_dtmc ?_ | refine DL.w_dtupN ?_ | refine DL.w_dlist ?_ | refine DL.w_dtuple ?_ | refine DL.w_tupV ?_ | refine DL.w_listV ?_
    | refine DL.w_bind ?_ | refine DL.w_lift ?_ | refine DL.w_frz ?_ | refine DL.w_vw ?_ | refine DL.w_ow ?_
    | refine DL.w_dand ?_ | refine DL.w_dor ?_ | refine DL.w_dnot ?_ | refine DL.w_dandV ?_ | refine DL.w_dorV ?_ | refine DL.w_dnotV ?_ | refine DL.w_dif ?_
    | refine DL.frzP_im ?_ | refine DL.frzP_new ?_ | refine DL.vwP_im ?_ | refine DL.vwP_new ?_ | refine DL.vwP_bor ?_ | refine DL.owP_im ?_ | refine DL.owP_new ?_ | refine DL.owP_bor ?_
    | (refine DL.setP_im (by with_unfolding_all first | rfl | exact DL.fo_free rfl) ?_; simp only [List.set_cons_succ, List.set_cons_zero, DL.O.flat]) | (refine DL.setP_new (by with_unfolding_all first | rfl | exact DL.fo_free rfl) ?_; simp only [List.set_cons_succ, List.set_cons_zero, DL.O.flat])
    | refine DL.argP_im ?_ | refine DL.argP_new ?_ | refine DL.argP_bor ?_ | refine DL.rvP_im ?_ | refine DL.rvP_new ?_ | refine DL.mvP_im ?_ | refine DL.mvP_new ?_ | (refine DL.mvP_bor (by with_unfolding_all rfl) ?_; simp only [List.set_cons_succ, List.set_cons_zero]) | refine DL.itP_im ?_ | refine DL.itP_new ?_ | refine DL.tuP_lst ?_ | refine DL.blP_of ?_
    | refine DL.op_rng (by with_unfolding_all decide) ?_ | refine DL.op_rngG ?_ | refine DL.op_isiII ?_ | refine DL.op_isiIB ?_ | refine DL.op_isiTT ?_ | refine DL.op_isiLL ?_
    | refine DL.op_eq ?_ | refine DL.op_ne ?_ | refine DL.br_t ?_ | refine DL.br_f ?_ | refine DL.br_not ?_ | refine DL.br_eqT (by with_unfolding_all rfl) ?_ | refine DL.br_eqF (by with_unfolding_all rfl) ?_
    | refine DL.op_mod (by with_unfolding_all decide) ?_ | refine DL.op_div (by with_unfolding_all decide) ?_ | refine DL.op_mul (DL.mul_r (by with_unfolding_all decide)) ?_ | refine DL.op_mul (DL.mul_l (by with_unfolding_all decide)) ?_ | refine DL.op_pow (by with_unfolding_all decide) ?_
    | refine DL.w_seq ?_ | refine DL.w_next ?_ | refine DL.w_if ?_ | refine DL.w_match ?_ | refine DL.pickP_of (by with_unfolding_all decide) ?_ | refine DL.sp_t ?_ | refine DL.sp_f (by with_unfolding_all decide) ?_ | refine DL.sp_n ?_ | refine DL.w_rt ?_ | refine DL.w_set ?_ | refine DL.w_drop ?_ | refine DL.w_app (by with_unfolding_all rfl) ?_ | (refine DL.appP_of (by with_unfolding_all rfl) (by first | assumption | with_unfolding_all exact Nat.le_of_ble_eq_true rfl | (simp only [List.length_append, List.length_map, List.length_cons, List.length_nil]; omega)) ?_; simp only [List.set_cons_succ, List.set_cons_zero, DL.O.flat]) | refine DL.w_forP ?_ | refine DL.w_sforv (by with_unfolding_all rfl) (by with_unfolding_all rfl) ?_ | refine DL.w_asg ?_ | refine DL.w_forV ?_ | refine DL.sqt_if ?_ | refine DL.sqt_rt ?_ | refine DL.sqt_next ?_
    | refine DL.sz (by with_unfolding_all exact Nat.le_of_ble_eq_true rfl) ?_
    | refine DL.outI_im (by with_unfolding_all exact Nat.le_of_ble_eq_true rfl) ?_ | refine DL.outI_new (by with_unfolding_all exact Nat.le_of_ble_eq_true rfl) ?_ | refine DL.outI_bor (by with_unfolding_all exact Nat.le_of_ble_eq_true rfl) (by with_unfolding_all rfl) ?_
    | exact DL.us_next | exact DL.us_bk | exact DL.us_ct | exact DL.us_rtN | refine DL.us_seq ?_ ?_ | refine DL.us_if ?_ ?_ ?_ | refine DL.us_rt ?_ | refine DL.us_drop ?_ | refine DL.us_setI (by decide) ?_
    | exact DL.ud_pure | exact DL.ud_lift | exact DL.ud_xf | exact DL.ud_xi | exact DL.ud_var (by decide) | exact DL.ud_frz (by decide)
    | refine DL.ud_imR ?_ | refine DL.ud_vw ?_ | refine DL.ud_dtup ?_ | refine DL.ud_dlst ?_ | refine DL.ud_dcons ?_ ?_ | refine DL.ud_dconsV ?_ ?_ | refine DL.ud_dbin ?_ ?_ | refine DL.ud_dcmp ?_ ?_ | refine DL.ud_dtB ?_ | refine DL.ud_dtru ?_
    | refine DL.ud_dnot ?_ | refine DL.ud_dand ?_ ?_ | refine DL.ud_dor ?_ ?_ | refine DL.ud_dnotV ?_ | refine DL.ud_dandV ?_ ?_ | refine DL.ud_dorV ?_ ?_ | refine DL.ud_dif ?_ ?_ ?_ | refine DL.ud_imD ?_ | refine DL.ud_fl ?_ | refine DL.ud_dixO ?_ ?_ | refine DL.ud_dixX ?_ ?_ | exact DL.ud_ow (by decide) | exact DL.ud_meth0 (by decide) | (refine DL.ud_bind ?_ fun _ => ?_)
    | refine DL.w_op (by with_unfolding_all rfl) ?_ | rfl)

theorem src_one {l r r' : List Nat} {d d' d'' : Nat} (h : Src l d r d') (k : Src l d r' d'') : r = r' ∧ d' = d'' := by
  rcases h with ⟨a1, a2, a3, rfl, rfl⟩ | ⟨a1, ⟨v, w, a2⟩, rfl⟩ <;> rcases k with ⟨b1, b2, b3, rfl, rfl⟩ | ⟨b1, ⟨v', w', b2⟩, rfl⟩
  · exact ⟨rfl, rfl⟩
  · exact absurd a1 b1
  · exact absurd b1 a1
  · rw [a2] at b2
    cases b2
    exact ⟨rfl, rfl⟩
theorem nodeep {l r : List Nat} {d d' : Nat} (h : Src l d r d') (h40 : l.head? = some 40) (hd : d = 12) : False := by
  rcases h with ⟨_, h2, _⟩ | ⟨h2, _⟩
  · omega
  · exact h2 h40
theorem noopn {l r : List Nat} {d d' : Nat} (h : Src l d r d') (h40 : l.head? = some 40) (h41 : l.tail.head? ≠ some 41) : False := by
  rcases h with ⟨_, _, h2, _⟩ | ⟨h2, _⟩
  · exact h41 h2
  · exact h2 h40
theorem nobad {l r r' : List Nat} {d d' : Nat} (h : Src l d r d') (h40 : l.head? ≠ some 40) (hb : atom l = .bad r') : False := by
  rcases h with ⟨h2, _⟩ | ⟨_, ⟨v, w, h2⟩, _⟩
  · exact h40 h2
  · rw [hb] at h2
    cases h2
theorem inv_deep {l : List Nat} {d : Nat} {res : Option (List Nat)} (h : LawR l d res) (h40 : l.head? = some 40) (hd : d = 12) : res = some l := by
  cases h with
  | deep _ => rfl
  | opn _ h2 _ _ => omega
  | bad h1 _ => exact absurd h40 h1
  | fin h1 _ => exact (nodeep h1 h40 hd).elim
  | wrong h1 _ _ _ => exact (nodeep h1 h40 hd).elim
  | next h1 _ _ _ _ => exact (nodeep h1 h40 hd).elim
theorem inv_opn {l : List Nat} {d : Nat} {res : Option (List Nat)} (h : LawR l d res) (h40 : l.head? = some 40) (hd : d < 12) (h41 : l.tail.head? ≠ some 41) : LawR l.tail (d + 1) res := by
  cases h with
  | deep _ => omega
  | opn _ _ _ k => exact k
  | bad h1 _ => exact absurd h40 h1
  | fin h1 _ => exact (noopn h1 h40 h41).elim
  | wrong h1 _ _ _ => exact (noopn h1 h40 h41).elim
  | next h1 _ _ _ _ => exact (noopn h1 h40 h41).elim
theorem inv_bad {l r : List Nat} {d : Nat} {res : Option (List Nat)} (h : LawR l d res) (h40 : l.head? ≠ some 40) (hb : atom l = .bad r) : res = some r := by
  cases h with
  | deep h1 => exact absurd h1 h40
  | opn h1 _ _ _ => exact absurd h1 h40
  | bad _ k => rw [hb] at k; cases k; rfl
  | fin h1 _ => exact (nobad h1 h40 hb).elim
  | wrong h1 _ _ _ => exact (nobad h1 h40 hb).elim
  | next h1 _ _ _ _ => exact (nobad h1 h40 hb).elim
theorem inv_aft {l r : List Nat} {d d' : Nat} {res : Option (List Nat)} (h : LawR l d res) (hs : Src l d r d') : Aft r d' res := by
  cases h with
  | deep h1 => exact (nodeep hs h1 rfl).elim
  | opn h1 _ h3 _ => exact (noopn hs h1 h3).elim
  | bad h1 h2 => exact (nobad hs h1 h2).elim
  | fin h1 k => obtain ⟨rfl, rfl⟩ := src_one hs h1; exact .inl ⟨k, rfl⟩
  | wrong h1 k1 k2 k3 => obtain ⟨rfl, rfl⟩ := src_one hs h1; exact .inr (.inl ⟨_, _, k1, k2, k3, rfl⟩)
  | next h1 k1 k2 k3 k4 => obtain ⟨rfl, rfl⟩ := src_one hs h1; exact .inr (.inr ⟨_, _, k1, k2, k3, k4⟩)
theorem strip_stay {r : List Nat} {d : Nat} (h : r.head? ≠ some 41) : strip d r = (r, d) := by
  cases d with
  | zero => rfl
  | succ d => exact if_neg h
theorem strip_step {r : List Nat} {d : Nat} (h : r.head? = some 41) : strip (d + 1) r = strip d r.tail := if_pos h
/-- the fault that is told -/
def ftD (x : List Nat) : Option (List Nat) → Int
  | none => -1
  | some r => pl x r
theorem fault_ok {x : List Nat} (hx : ok x) (hz : x.length ≤ 900000) {res : Option (List Nat)} (hR : LawR x 0 res) : FI f__law_fault [.str (S x)] (· = .im (.int (ftD x res))) := by
  refine w_fi ?_
  unfold d__law_fault
  show SW _ [some (false, .im _), none, none, none, none, none, none] _
  trivial
  refine op_lenS (by omega) ?_
  trivial
  refine ⟨⟨by omega, by omega⟩, ?_⟩
  refine sw_range (fun i e => ∃ (a d : Nat) (s3 s4 s5 s6 : Option O), e = [some (false, .im (.str (S x))), some (false, .im (.int (a : Nat))), some (false, .im (.int (d : Nat))), fo s3, fo s4, fo s5, fo s6] ∧ a ≤ x.length ∧ d ≤ 12 ∧ i ≤ a ∧ LawR (x.drop a) d res) ⟨0, 0, none, none, none, none, rfl, Nat.zero_le _, Nat.zero_le _, Nat.zero_le _, hR⟩ ?_ ?_
  · rintro i e hi ⟨a, d, s3, s4, s5, s6, rfl, ha, hd, hia, hL⟩
    refine ⟨_, if_pos (fo_free rfl), ?_⟩
    simp only [List.set_cons_succ, List.set_cons_zero]
    obtain ⟨l, hl⟩ : ∃ l, x.drop a = l := ⟨_, rfl⟩
    rw [hl] at hL
    have hlen := drop_len hl ha
    have okl : ok (l.take 1) := by rw [← hl]; exact take_ok hx 1
    have hat : (x.drop a).take (a + 1 - a) = l.take 1 := by rw [hl, show a + 1 - a = 1 by omega]
    refine w_seqM (fun e => e = [some (false, .im (.str (S x))), some (false, .im (.int (a : Nat))), some (false, .im (.int (d : Nat))), some (false, .im (.int (i : Int))), some (false, .im (.bl (decide (l.take 1 = [40])))), fo s5, fo s6]) ?_ ?_
    · trivial
      refine op_slice (b := a + 1) (by omega) (by omega) (by omega) ?_
      rw [hat]
      trivial
      refine op_eqS (m := [40]) okl (ok_one (by omega)) ?_
      trivial
    rintro e rfl
    refine w_seqM (fun e => e = [some (false, .im (.str (S x))), some (false, .im (.int (a : Nat))), some (false, .im (.int (d : Nat))), some (false, .im (.int (i : Int))), some (false, .im (.bl (decide (l.take 1 = [40])))), fo s5, fo s6] ∧ ¬ (l.head? = some 40 ∧ d = 12)) ?_ ?_
    · trivial
      refine br_dec (fun h => ?_) (fun h => ?_)
      · trivial
        refine br_dec (fun h2 => ?_) (fun h2 => ?_)
        · have := inv_deep hL (take_one.mp h) (by omega)
          subst this
          trivial
          rw [show ftD x (some l) = (a : Int) from pl_drop hl ha]
        · trivial
          exact ⟨rfl, fun z => h2 (by omega)⟩
      · trivial
        exact ⟨rfl, fun z => h (take_one.mpr z.1)⟩
    rintro e ⟨rfl, hnd⟩
    refine w_seqM (fun e => ∃ (b d' : Nat) (s5 : Option O), e = [some (false, .im (.str (S x))), some (false, .im (.int (b : Nat))), some (false, .im (.int (d' : Nat))), some (false, .im (.int (i : Int))), some (false, .im (.bl (decide (l.take 1 = [40])))), fo s5, fo s6] ∧ b ≤ x.length ∧ a + 1 ≤ b ∧ d' ≤ 12 ∧ ((l.head? = some 40 ∧ d < 12 ∧ d' = d + 1 ∧ x.drop b = l.tail) ∨ (l.head? ≠ some 40 ∧ Src l d (x.drop b) d'))) ?_ ?_
    · trivial
      refine br_dec (fun h => ?_) (fun h => ?_)
      · have h40 := take_one.mp h
        have ha1 : a + 1 ≤ x.length := by
          cases l with
          | nil => cases h40
          | cons c q => rw [List.length_cons] at hlen; omega
        have hd12 : d < 12 := by have : d ≠ 12 := fun z => hnd ⟨h40, z⟩; omega
        trivial
        exact ⟨a + 1, d + 1, s5, rfl, ha1, Nat.le_refl _, by omega, .inl ⟨h40, hd12, rfl, by rw [← List.drop_drop, hl, List.drop_one]⟩⟩
      · have h40 : l.head? ≠ some 40 := fun z => h (take_one.mpr z)
        trivial
        refine w_callI (ds := [.str _, .int _]) (atom_end_ok hx hz ha hl) rfl ?_
        trivial
        cases hatm : atom l with
        | out => exact absurd hatm atom_in
        | bad r =>
          have := inv_bad hL h40 hatm
          subst this
          have h0 : (0 : Int) ≤ pl x r := Int.natCast_nonneg _
          have e1 : atR x (.bad r) = -1 - pl x r := rfl
          rw [e1]
          refine br_dec (fun h2 => ?_) (fun h2 => by omega)
          trivial
          show FRv.im (D.int _) = FRv.im (D.int (pl x r))
          rw [show (-1 : Int) - (-1 - pl x r) = pl x r by omega]
        | ok v w r =>
          have okll : ok l := by rw [← hl]; exact fun c hc => hx c (List.mem_of_mem_drop hc)
          obtain ⟨k1, k2⟩ := atom_ok okll hatm
          have hwp := List.length_pos_iff.mpr (leaf_ne k2)
          have hlw := congrArg List.length k1
          rw [List.length_append] at hlw
          have hbr : x.drop (a + w.length) = r := by rw [← List.drop_drop, hl, k1, List.drop_left]
          have hp : pl x r = ((a + w.length : Nat) : Int) := pl_drop hbr (by omega)
          have e1 : atR x (.ok v w r) = ((a + w.length : Nat) : Int) := hp
          rw [e1]
          refine br_dec (fun h2 => by omega) (fun h2 => ?_)
          trivial
          exact ⟨a + w.length, d, some (.im (.int ((a + w.length : Nat) : Int))), rfl, by omega, by omega, hd, .inr ⟨h40, by rw [hbr]; exact .inr ⟨h40, ⟨v, w, hatm⟩, rfl⟩⟩⟩
    rintro e ⟨b, d', s5, rfl, hb, hab, hd', hcase⟩
    have okb : ok ((x.drop b).take 1) := take_ok hx 1
    have hbt : (x.drop b).take (b + 1 - b) = (x.drop b).take 1 := by rw [show b + 1 - b = 1 by omega]
    refine w_seqM (fun e => e = [some (false, .im (.str (S x))), some (false, .im (.int (b : Nat))), some (false, .im (.int (d' : Nat))), some (false, .im (.int (i : Int))), some (false, .im (.bl (decide (l.take 1 = [40])))), fo s5, fo s6] ∧ Src l d (x.drop b) d') ?_ ?_
    · trivial
      refine br_dec (fun h => ?_) (fun h => ?_)
      · have h40 := take_one.mp h
        obtain ⟨_, hd12, rfl, htl⟩ := hcase.resolve_right (fun z => z.1 h40)
        trivial
        refine op_slice (b := b + 1) (by omega) (by omega) (by omega) ?_
        rw [hbt]
        trivial
        refine op_neS (m := [41]) okb (ok_one (by omega)) ?_
        refine br_dec (fun h2 => ?_) (fun h2 => ?_)
        · have h41 : l.tail.head? ≠ some 41 := fun z => h2 (take_one.mpr (by rw [htl]; exact z))
          exact ⟨_, rfl, b, d + 1, some (.im (.int (i : Int))), some (.im (.bl (decide (l.take 1 = [40])))), s5, s6, rfl, hb, by omega, by omega, by rw [htl]; exact inv_opn hL h40 hd12 h41⟩
        · trivial
          have h41 : l.tail.head? = some 41 := by rw [← htl]; exact take_one.mp (Classical.not_not.mp h2)
          exact ⟨rfl, .inl ⟨h40, hd12, h41, htl, rfl⟩⟩
      · have h40 : l.head? ≠ some 40 := fun z => h (take_one.mpr z)
        trivial
        exact ⟨rfl, (hcase.resolve_left (fun z => h40 z.1)).2⟩
    rintro e ⟨rfl, hs⟩
    have hA := inv_aft hL hs
    refine w_seqM (fun e => ∃ (b2 d2 : Nat) (s6 : Option O), e = [some (false, .im (.str (S x))), some (false, .im (.int (b2 : Nat))), some (false, .im (.int (d2 : Nat))), some (false, .im (.int (i : Int))), some (false, .im (.bl (decide (l.take 1 = [40])))), fo s5, fo s6] ∧ b2 ≤ x.length ∧ b ≤ b2 ∧ d2 ≤ 12 ∧ strip d' (x.drop b) = (x.drop b2, d2)) ?_ ?_
    · trivial
      refine ⟨⟨by omega, by omega⟩, ?_⟩
      refine sw_range (fun k e => ∃ (b2 d2 : Nat) (s6 : Option O), e = [some (false, .im (.str (S x))), some (false, .im (.int (b2 : Nat))), some (false, .im (.int (d2 : Nat))), some (false, .im (.int (i : Int))), some (false, .im (.bl (decide (l.take 1 = [40])))), fo s5, fo s6] ∧ b2 ≤ x.length ∧ b ≤ b2 ∧ d2 ≤ 12 ∧ strip d' (x.drop b) = strip d2 (x.drop b2) ∧ (d2 + k = d' ∨ (x.drop b2).head? ≠ some 41)) ⟨b, d', s6, rfl, hb, Nat.le_refl _, hd', rfl, .inl rfl⟩ ?_ ?_
      · rintro k e hk ⟨b2, d2, s6, rfl, hb2, hbb, hd2, hst, hk2⟩
        refine ⟨_, if_pos (fo_free rfl), ?_⟩
        simp only [List.set_cons_succ, List.set_cons_zero]
        trivial
        refine op_slice (b := b2 + 1) (by omega) (by omega) (by omega) ?_
        rw [show b2 + 1 - b2 = 1 by omega]
        trivial
        refine op_eqS (m := [41]) (take_ok hx 1) (ok_one (by omega)) ?_
        refine br_dec (fun h => ?_) (fun h => ?_)
        · have h41 := take_one.mp h
          have hk3 := hk2.resolve_right (fun z => z h41)
          obtain ⟨q, rfl⟩ : ∃ q, d2 = q + 1 := ⟨d2 - 1, by omega⟩
          have hlen2 := drop_len (l := x.drop b2) rfl hb2
          have hb3 : b2 + 1 ≤ x.length := by
            cases e : x.drop b2 with
            | nil => rw [e] at h41; cases h41
            | cons c q => rw [e, List.length_cons] at hlen2; omega
          trivial
          refine ⟨b2 + 1, q, some (.im (.int (k : Int))), ?_, hb3, by omega, by omega, ?_, .inl (by omega)⟩
          · rw [show ((q + 1 : Nat) : Int) - 1 = (q : Int) by omega]
            rfl
          · rw [hst, strip_step h41, ← List.drop_drop, List.drop_one]
        · trivial
          exact ⟨b2, d2, some (.im (.int (k : Int))), rfl, hb2, hbb, hd2, hst, .inr fun z => h (take_one.mpr z)⟩
      · rintro e ⟨b2, d2, s6, rfl, hb2, hbb, hd2, hst, hk2⟩
        refine ⟨b2, d2, s6, rfl, hb2, hbb, hd2, ?_⟩
        rw [hst]
        rcases hk2 with hk2 | hk2
        · have : d2 = 0 := by omega
          subst this
          rfl
        · exact strip_stay hk2
    rintro e ⟨b2, d2, s6, rfl, hb2, hbb, hd2, hst⟩
    have wrong : (d2 = 0 ∨ (x.drop b2).head? ≠ some 32) → ¬ (d2 = 0 ∧ x.drop b2 = []) → res = some (x.drop b2) := fun z1 z2 => by
      rcases hA with ⟨k1, k2⟩ | ⟨r2, d3, k1, k2, k3, k4⟩ | ⟨r2, d3, k1, k2, k3, k4⟩
      · rw [hst] at k1
        injection k1 with e1 e2
        exact absurd ⟨e2, e1⟩ z2
      · rw [hst] at k1
        injection k1 with e1 e2
        rw [k4, e1]
      · rw [hst] at k1
        injection k1 with e1 e2
        rw [← e2] at k2
        rw [← e1] at k3
        rcases z1 with z1 | z1
        · exact absurd z1 k2
        · exact absurd k3 z1
    have hpb : ftD x (some (x.drop b2)) = (b2 : Int) := pl_drop rfl hb2
    have hlen2 := drop_len (l := x.drop b2) rfl hb2
    trivial
    refine br_dec (fun h => ?_) (fun h => ?_)
    · trivial
      refine op_lenS (by omega) ?_
      trivial
      refine br_dec (fun h2 => ?_) (fun h2 => ?_)
      · have hnil : x.drop b2 = [] := List.drop_eq_nil_of_le (by omega)
        have : res = none := by
          rcases hA with ⟨k1, k2⟩ | ⟨r2, d3, k1, k2, k3, k4⟩ | ⟨r2, d3, k1, k2, k3, k4⟩
          · exact k2
          · rw [hst] at k1
            injection k1 with e1 e2
            exact absurd ⟨by omega, by rw [← e1]; exact hnil⟩ k3
          · rw [hst] at k1
            injection k1 with e1 e2
            omega
        subst this
        trivial
        rfl
      · have := wrong (.inl (by omega)) (fun z => by rw [z.2, List.length_nil] at hlen2; omega)
        subst this
        trivial
        refine br_dec (fun h3 => ?_) (fun h3 => by omega)
        trivial
        rw [hpb]
    · trivial
      refine br_dec (fun h3 => by omega) (fun h3 => ?_)
      trivial
      refine op_slice (b := b2 + 1) (by omega) (by omega) (by omega) ?_
      rw [show b2 + 1 - b2 = 1 by omega]
      trivial
      refine op_neS (m := [32]) (take_ok hx 1) (ok_one (by omega)) ?_
      refine br_dec (fun h4 => ?_) (fun h4 => ?_)
      · have := wrong (.inr fun z => h4 (take_one.mpr z)) (fun z => by omega)
        subst this
        trivial
        rw [hpb]
      · have h32 := take_one.mp (Classical.not_not.mp h4)
        trivial
        have hb3 : b2 + 1 ≤ x.length := by
          cases e : x.drop b2 with
          | nil => rw [e] at h32; cases h32
          | cons c q => rw [e, List.length_cons] at hlen2; omega
        refine ⟨b2 + 1, d2, some (.im (.int (i : Int))), some (.im (.bl (decide (l.take 1 = [40])))), s5, s6, rfl, hb3, hd2, by omega, ?_⟩
        rcases hA with ⟨k1, k2⟩ | ⟨r2, d3, k1, k2, k3, k4⟩ | ⟨r2, d3, k1, k2, k3, k4⟩
        · rw [hst] at k1
          injection k1 with e1 e2
          omega
        · rw [hst] at k1
          injection k1 with e1 e2
          rcases k2 with k2 | k2
          · omega
          · exact absurd (by rw [← e1]; exact h32) k2
        · rw [hst] at k1
          injection k1 with e1 e2
          rw [← List.drop_drop, List.drop_one, e1, e2]
          exact k4
  · rintro e ⟨a, d, s3, s4, s5, s6, rfl, ha, hd, hia, hL⟩
    exfalso
    omega
end K73

namespace K73
open PySem DL TOK NTN RDT
local macro_rules
  | `(tactic| trivial) => `(tactic| repeat' with_reducible first
    | refine DL.w_pure ?_ | refine DL.w_dq ?_ | refine DL.w_imR ?_ | refine DL.w_imD ?_ | refine DL.w_fl ?_ | refine DL.w_bin ?_ | refine DL.w_cmp ?_ | refine DL.w_rev ?_ | refine DL.w_cat ?_ | refine DL.w_chain ?_ | refine DL.w_dtB ?_ | refine DL.w_dtru ?_
    | refine DL.w_frzI (by with_unfolding_all rfl) ?_ | refine DL.w_vwI (by with_unfolding_all rfl) ?_ | refine DL.w_owO (by with_unfolding_all rfl) ?_ | refine DL.w_varI (by with_unfolding_all rfl) ?_ | refine DL.w_varL (by with_unfolding_all rfl) ?_ | refine DL.w_varT (by with_unfolding_all rfl) ?_
    | refine DL.w_vwO (by with_unfolding_all rfl) ?_ | (refine DL.w_frzO (by with_unfolding_all rfl) ?_; simp only [List.set_cons_succ, List.set_cons_zero, DL.O.flat])
    | refine DL.w_dcons ?_ | refine DL.w_dconsV ?_ | refine DL.w_darcons ?_ | (refine DL.w_dtup ?_) | refine DL.w_dlst ?_ | refine DL.w_dixO ?_ | refine DL.w_sq ?_ | refine DL.w_dixX ?_ | refine DL.w_listX ?_ | refine DL.w_sorted ?_ | refine DL.w_un ?_ | refine DL.w_sqC ?_ | refine DL.w_forC ?_ | refine DL.op_fldI (by with_unfolding_all rfl) ?_ | refine DL.w_rg ?_ | refine DL.w_rvO ?_ | refine DL.w_dslice ?_ | refine DL.w_dtmc ?_ | refine DL.w_dtupN ?_ | refine DL.w_dlist ?_ | refine DL.w_dtuple ?_ | refine DL.w_tupV ?_ | refine DL.w_listV ?_
    | refine DL.w_bind ?_ | refine DL.w_lift ?_ | refine DL.w_frz ?_ | refine DL.w_vw ?_ | refine DL.w_ow ?_
    | refine DL.w_dand ?_ | refine DL.w_dor ?_ | refine DL.w_dnot ?_ | refine DL.w_dandV ?_ | refine DL.w_dorV ?_ | refine DL.w_dnotV ?_ | refine DL.w_dif ?_
    | refine DL.frzP_im ?_ | refine DL.frzP_new ?_ | refine DL.vwP_im ?_ | refine DL.vwP_new ?_ | refine DL.vwP_bor ?_ | refine DL.owP_im ?_ | refine DL.owP_new ?_ | refine DL.owP_bor ?_
    | (refine DL.setP_im (by with_unfolding_all first | rfl | exact DL.fo_free rfl) ?_; simp only [List.set_cons_succ, List.set_cons_zero, DL.O.flat]) | (refine DL.setP_new (by with_unfolding_all first | rfl | exact DL.fo_free rfl) ?_; simp only [List.set_cons_succ, List.set_cons_zero, DL.O.flat])
    | refine DL.argP_im ?_ | refine DL.argP_new ?_ | refine DL.argP_bor ?_ | refine DL.rvP_im ?_ | refine DL.rvP_new ?_ | refine DL.mvP_im ?_ | refine DL.mvP_new ?_ | (refine DL.mvP_bor (by with_unfolding_all rfl) ?_; simp only [List.set_cons_succ, List.set_cons_zero]) | refine DL.itP_im ?_ | refine DL.itP_new ?_ | refine DL.tuP_lst ?_ | refine DL.blP_of ?_
    | refine DL.op_rng (by with_unfolding_all decide) ?_ | refine DL.op_rngG ?_ | refine DL.op_isiII ?_ | refine DL.op_isiIB ?_ | refine DL.op_isiTT ?_ | refine DL.op_isiLL ?_
    | refine DL.op_eq ?_ | refine DL.op_ne ?_ | refine DL.br_t ?_ | refine DL.br_f ?_ | refine DL.br_not ?_ | refine DL.br_eqT (by with_unfolding_all rfl) ?_ | refine DL.br_eqF (by with_unfolding_all rfl) ?_
    | refine DL.op_mod (by with_unfolding_all decide) ?_ | refine DL.op_div (by with_unfolding_all decide) ?_ | refine DL.op_mul (DL.mul_r (by with_unfolding_all decide)) ?_ | refine DL.op_mul (DL.mul_l (by with_unfolding_all decide)) ?_ | refine DL.op_pow (by with_unfolding_all decide) ?_
    | refine DL.w_seq ?_ | refine DL.w_next ?_ | refine DL.w_if ?_ | refine DL.w_match ?_ | refine DL.pickP_of (by with_unfolding_all decide) ?_ | refine DL.sp_t ?_ | refine DL.sp_f (by with_unfolding_all decide) ?_ | refine DL.sp_n ?_ | refine DL.w_rt ?_ | refine DL.w_set ?_ | refine DL.w_drop ?_ | refine DL.w_app (by with_unfolding_all rfl) ?_ | (refine DL.appP_of (by with_unfolding_all rfl) (by first | assumption | with_unfolding_all exact Nat.le_of_ble_eq_true rfl | (simp only [List.length_append, List.length_map, List.length_cons, List.length_nil]; omega)) ?_; simp only [List.set_cons_succ, List.set_cons_zero, DL.O.flat]) | refine DL.w_forP ?_ | refine DL.w_sforv (by with_unfolding_all rfl) (by with_unfolding_all rfl) ?_ | refine DL.w_asg ?_ | refine DL.w_forV ?_ | refine DL.sqt_if ?_ | refine DL.sqt_rt ?_ | refine DL.sqt_next ?_
    | refine DL.sz (by with_unfolding_all exact Nat.le_of_ble_eq_true rfl) ?_
    | refine DL.outI_im (by with_unfolding_all exact Nat.le_of_ble_eq_true rfl) ?_ | refine DL.outI_new (by with_unfolding_all exact Nat.le_of_ble_eq_true rfl) ?_ | refine DL.outI_bor (by with_unfolding_all exact Nat.le_of_ble_eq_true rfl) (by with_unfolding_all rfl) ?_
    | exact DL.us_next | exact DL.us_bk | exact DL.us_ct | exact DL.us_rtN | refine DL.us_seq ?_ ?_ | refine DL.us_if ?_ ?_ ?_ | refine DL.us_rt ?_ | refine DL.us_drop ?_ | refine DL.us_setI (by decide) ?_
    | exact DL.ud_pure | exact DL.ud_lift | exact DL.ud_xf | exact DL.ud_xi | exact DL.ud_var (by decide) | exact DL.ud_frz (by decide)
    | refine DL.ud_imR ?_ | refine DL.ud_vw ?_ | refine DL.ud_dtup ?_ | refine DL.ud_dlst ?_ | refine DL.ud_dcons ?_ ?_ | refine DL.ud_dconsV ?_ ?_ | refine DL.ud_dbin ?_ ?_ | refine DL.ud_dcmp ?_ ?_ | refine DL.ud_dtB ?_ | refine DL.ud_dtru ?_
    | refine DL.ud_dnot ?_ | refine DL.ud_dand ?_ ?_ | refine DL.ud_dor ?_ ?_ | refine DL.ud_dnotV ?_ | refine DL.ud_dandV ?_ ?_ | refine DL.ud_dorV ?_ ?_ | refine DL.ud_dif ?_ ?_ ?_ | refine DL.ud_imD ?_ | refine DL.ud_fl ?_ | refine DL.ud_dixO ?_ ?_ | refine DL.ud_dixX ?_ ?_ | exact DL.ud_ow (by decide) | exact DL.ud_meth0 (by decide) | (refine DL.ud_bind ?_ fun _ => ?_)
    | refine DL.w_op (by with_unfolding_all rfl) ?_ | rfl)

def glB (z : Str) : Bool := z.cps.all (· < 128) && decide (z.cps.size ≤ 1200)
def GD (d : D) : Prop := ∃ x, d = .str (S x) ∧ ok x ∧ x.length ≤ 1200
theorem gl {z : Str} (h : glB z = true) : GD (.str z) := by
  obtain ⟨a⟩ := z
  unfold glB at h
  rw [Bool.and_eq_true] at h
  obtain ⟨h1, h2⟩ := h
  refine ⟨a.toList, by show D.str ⟨a⟩ = .str ⟨a.toList.toArray⟩; simp, fun c hc => ?_, by have := of_decide_eq_true h2; simpa using this⟩
  have h1 : a.all (fun x => decide (x < 128)) = true := h1
  rw [← Array.all_toList, List.all_eq_true] at h1
  exact of_decide_eq_true (h1 c hc)
theorem gS {x : List Nat} (h : ok x) (hz : x.length ≤ 1200) : GD (.str (S x)) := ⟨x, rfl, h, hz⟩
theorem op_mulC {z : Str} {c : Nat} (hz : z = S [c]) {k : Int} {P : D → Prop} (h0 : 0 ≤ k) (h1 : k ≤ 1000000) (p : P (.str (S (List.replicate k.toNat c)))) : OP (mulS (.str z) (.int k)) P := ⟨_, by subst hz; unfold mulS; exact if_pos ⟨rfl, h0, h1⟩, p⟩
theorem op_catZ {a b : Str} {l m : List Nat} {P : D → Prop} (ha : a = S l) (hb : b = S m) (h : l.length + m.length ≤ 1000000) (p : P (.str (S (l ++ m)))) : OP (addD (.str a) (.str b)) P := by
  subst ha hb
  exact op_cat h p
theorem op_catI {l m : List D} {P : Rv → Prop} (h : l.length + m.length ≤ 1000000) (p : P (.new (.lst ((l ++ m).map O.im)))) : OP (catV (.im (.lst l)) (.im (.lst m))) P := by
  have q := op_catL (P := P) h p
  rw [show (O.lst (l.map O.im)).flat = .lst l from by show D.lst (O.flats _) = _; rw [flats_im], show (O.lst (m.map O.im)).flat = .lst m from by show D.lst (O.flats _) = _; rw [flats_im]] at q
  exact q
theorem ok_repl {c : Nat} (h : c < 128) (n : Nat) : ok (List.replicate n c) := fun d hd => by rw [(List.mem_replicate.mp hd).2]; exact h
theorem odd_ok (n : Int) : FI f__law_odd [.int n] fun r => ∃ x, r = .im (.str (S x)) ∧ ok x ∧ x.length ≤ 1200 := by
  refine w_fi ?_
  unfold d__law_odd
  show SW _ [some (false, .im _), none] _
  refine w_seqM (fun e => ∃ ds, e = [some (false, .im (.int n)), some (false, .im (.lst ds))] ∧ (∀ d ∈ ds, GD d) ∧ ds.length = 16) ?_ ?_
  · trivial
    refine ⟨_, rfl, fun d hd => ?_, rfl⟩
    have hd : d ∈ [_, _, _, _, _, _, _, _, _, _, _, _, _, _, _, _] := hd
    simp only [List.mem_cons, List.not_mem_nil, or_false] at hd
    rcases hd with rfl | rfl | rfl | rfl | rfl | rfl | rfl | rfl | rfl | rfl | rfl | rfl | rfl | rfl | rfl | rfl
    all_goals exact gl (by decide +kernel)
  rintro e ⟨ds, rfl, hg, hl⟩
  refine w_seqM (fun e => ∃ ds, e = [some (false, .im (.int n)), some (false, .im (.lst ds))] ∧ (∀ d ∈ ds, GD d) ∧ ds.length = 24) ?_ ?_
  · trivial
    refine op_catI (m := [_, _, _, _, _, _, _, _]) (by rw [hl]; show 16 + 8 ≤ _; omega) ?_
    trivial
    refine ⟨_, rfl, fun d hd => ?_, by rw [flats_im, List.length_append, hl]; rfl⟩
    rw [flats_im] at hd
    rcases List.mem_append.mp hd with hd | hd
    · exact hg d hd
    simp only [List.mem_cons, List.not_mem_nil, or_false] at hd
    rcases hd with rfl | rfl | rfl | rfl | rfl | rfl | rfl | rfl
    all_goals exact gl (by decide +kernel)
  clear hg hl ds
  rintro e ⟨ds, rfl, hg, hl⟩
  refine w_seqM (fun e => ∃ ds, e = [some (false, .im (.int n)), some (false, .im (.lst ds))] ∧ (∀ d ∈ ds, GD d) ∧ ds.length = 28) ?_ ?_
  · obtain ⟨k1, hk1⟩ : ∃ k : Int, k = 1000 := ⟨_, rfl⟩
    obtain ⟨k2, hk2⟩ : ∃ k : Int, k = 999 := ⟨_, rfl⟩
    obtain ⟨k3, hk3⟩ : ∃ k : Int, k = 1001 := ⟨_, rfl⟩
    rw [← hk1, ← hk2, ← hk3]
    have e5 : Str.ofString "1000:" = S [49, 48, 48, 48, 58] := by decide +kernel
    have e6 : Str.ofString "1001:" = S [49, 48, 48, 49, 58] := by decide +kernel
    have e7 : Str.ofString "999:" = S [57, 57, 57, 58] := by decide +kernel
    have ea : Str.ofString "a" = S [97] := by decide +kernel
    have eb : Str.ofString "b" = S [98] := by decide +kernel
    have ec : Str.ofString "c" = S [99] := by decide +kernel
    have ed : Str.ofString ")" = S [41] := by decide +kernel
    have lr : ∀ (k : Int) (c : Nat), (List.replicate k.toNat c).length = k.toNat := fun k c => List.length_replicate
    have o5 : ok [49, 48, 48, 48, 58] := (by decide : ∀ c ∈ [49, 48, 48, 48, 58], c < 128)
    have o6 : ok [49, 48, 48, 49, 58] := (by decide : ∀ c ∈ [49, 48, 48, 49, 58], c < 128)
    have o7 : ok [57, 57, 57, 58] := (by decide : ∀ c ∈ [57, 57, 57, 58], c < 128)
    trivial
    refine op_mulC ea (by omega) (by omega) ?_
    trivial
    refine op_catZ e5 rfl (by rw [lr]; show 5 + _ ≤ _; omega) ?_
    trivial
    refine op_mulC eb (by omega) (by omega) ?_
    trivial
    refine op_catZ e5 rfl (by rw [lr]; show 5 + _ ≤ _; omega) ?_
    trivial
    refine op_mulC ec (by omega) (by omega) ?_
    trivial
    refine op_catZ e6 rfl (by rw [lr]; show 5 + _ ≤ _; omega) ?_
    trivial
    refine op_mulC ed (by omega) (by omega) ?_
    trivial
    refine op_catZ e7 rfl (by rw [lr]; show 4 + _ ≤ _; omega) ?_
    trivial
    refine op_catI (m := [_, _, _, _]) (by rw [hl]; show 24 + 4 ≤ _; omega) ?_
    trivial
    refine ⟨_, rfl, fun d hd => ?_, by rw [flats_im, List.length_append, hl]; rfl⟩
    rw [flats_im] at hd
    rcases List.mem_append.mp hd with hd | hd
    · exact hg d hd
    simp only [List.mem_cons, List.not_mem_nil, or_false] at hd
    rcases hd with rfl | rfl | rfl | rfl
    · exact gS (ok_app o5 (ok_repl (by omega) _)) (by rw [List.length_append, lr]; show 5 + _ ≤ _; omega)
    · exact gS (ok_app o5 (ok_repl (by omega) _)) (by rw [List.length_append, lr]; show 5 + _ ≤ _; omega)
    · exact gS (ok_app o6 (ok_repl (by omega) _)) (by rw [List.length_append, lr]; show 5 + _ ≤ _; omega)
    · exact gS (ok_app o7 (ok_repl (by omega) _)) (by rw [List.length_append, lr]; show 4 + _ ≤ _; omega)
  clear hg hl ds
  rintro e ⟨ds, rfl, hg, hl⟩
  refine w_seqM (fun e => ∃ ds, e = [some (false, .im (.int n)), some (false, .im (.lst ds))] ∧ (∀ d ∈ ds, GD d) ∧ ds.length = 32) ?_ ?_
  · trivial
    refine op_catI (m := [_, _, _, _]) (by rw [hl]; show 28 + 4 ≤ _; omega) ?_
    trivial
    refine ⟨_, rfl, fun d hd => ?_, by rw [flats_im, List.length_append, hl]; rfl⟩
    rw [flats_im] at hd
    rcases List.mem_append.mp hd with hd | hd
    · exact hg d hd
    simp only [List.mem_cons, List.not_mem_nil, or_false] at hd
    rcases hd with rfl | rfl | rfl | rfl
    all_goals exact gl (by decide +kernel)
  clear hg hl ds
  rintro e ⟨ds, rfl, hg, hl⟩
  have f := fm n (b := 32) (by decide)
  trivial
  have q := op_pick (l := ds) (i := n.fmod 32) (P := fun o => GD (match o with | .im d => d | _ => .non) ∧ ∃ d, o = .im d) f.1 (by omega) (fun d hd => ⟨hg d hd, d, rfl⟩)
  rw [show (O.lst (ds.map O.im)).flat = .lst ds from by show D.lst (O.flats _) = _; rw [flats_im]] at q
  obtain ⟨o, ho, h1, d, rfl⟩ := q
  refine ⟨_, ho, ?_⟩
  obtain ⟨x, hx, h2, h3⟩ := h1
  have hx : d = .str (S x) := hx
  subst hx
  trivial
  exact ⟨x, rfl, h2, h3⟩
end K73

namespace K73
open PySem DL TOK NTN RDT
local macro_rules
  | `(tactic| trivial) => `(tactic| repeat' with_reducible first
    | refine DL.w_pure ?_ | refine DL.w_dq ?_ | refine DL.w_imR ?_ | refine DL.w_imD ?_ | refine DL.w_fl ?_ | refine DL.w_bin ?_ | refine DL.w_cmp ?_ | refine DL.w_rev ?_ | refine DL.w_cat ?_ | refine DL.w_chain ?_ | refine DL.w_dtB ?_ | refine DL.w_dtru ?_
    | refine DL.w_frzI (by with_unfolding_all rfl) ?_ | refine DL.w_vwI (by with_unfolding_all rfl) ?_ | refine DL.w_owO (by with_unfolding_all rfl) ?_ | refine DL.w_varI (by with_unfolding_all rfl) ?_ | refine DL.w_varL (by with_unfolding_all rfl) ?_ | refine DL.w_varT (by with_unfolding_all rfl) ?_
    | refine DL.w_vwO (by with_unfolding_all rfl) ?_ | (refine DL.w_frzO (by with_unfolding_all rfl) ?_; simp only [List.set_cons_succ, List.set_cons_zero, DL.O.flat])
    | refine DL.w_dcons ?_ | refine DL.w_dconsV ?_ | refine DL.w_darcons ?_ | (refine DL.w_dtup ?_) | refine DL.w_dlst ?_ | refine DL.w_dixO ?_ | refine DL.w_sq ?_ | refine DL.w_dixX ?_ | refine DL.w_listX ?_ | refine DL.w_sorted ?_ | refine DL.w_un ?_ | refine DL.w_sqC ?_ | refine DL.w_forC ?_ | refine DL.op_fldI (by with_unfolding_all rfl) ?_ | refine DL.w_rg ?_ | refine DL.w_rvO ?_ | refine DL.w_dslice ?_ | refine DL.w_dtmc ?_ | refine DL.w_dtupN ?_ | refine DL.w_dlist ?_ | refine DL.w_dtuple ?_ | refine DL.w_tupV ?_ | refine DL.w_listV ?_
    | refine DL.w_bind ?_ | refine DL.w_lift ?_ | refine DL.w_frz ?_ | refine DL.w_vw ?_ | refine DL.w_ow ?_
    | refine DL.w_dand ?_ | refine DL.w_dor ?_ | refine DL.w_dnot ?_ | refine DL.w_dandV ?_ | refine DL.w_dorV ?_ | refine DL.w_dnotV ?_ | refine DL.w_dif ?_
    | refine DL.frzP_im ?_ | refine DL.frzP_new ?_ | refine DL.vwP_im ?_ | refine DL.vwP_new ?_ | refine DL.vwP_bor ?_ | refine DL.owP_im ?_ | refine DL.owP_new ?_ | refine DL.owP_bor ?_
    | (refine DL.setP_im (by with_unfolding_all first | rfl | exact DL.fo_free rfl) ?_; simp only [List.set_cons_succ, List.set_cons_zero, DL.O.flat]) | (refine DL.setP_new (by with_unfolding_all first | rfl | exact DL.fo_free rfl) ?_; simp only [List.set_cons_succ, List.set_cons_zero, DL.O.flat])
    | refine DL.argP_im ?_ | refine DL.argP_new ?_ | refine DL.argP_bor ?_ | refine DL.rvP_im ?_ | refine DL.rvP_new ?_ | refine DL.mvP_im ?_ | refine DL.mvP_new ?_ | (refine DL.mvP_bor (by with_unfolding_all rfl) ?_; simp only [List.set_cons_succ, List.set_cons_zero]) | refine DL.itP_im ?_ | refine DL.itP_new ?_ | refine DL.tuP_lst ?_ | refine DL.blP_of ?_
    | refine DL.op_rng (by with_unfolding_all decide) ?_ | refine DL.op_rngG ?_ | refine DL.op_isiII ?_ | refine DL.op_isiIB ?_ | refine DL.op_isiTT ?_ | refine DL.op_isiLL ?_
    | refine DL.op_eq ?_ | refine DL.op_ne ?_ | refine DL.br_t ?_ | refine DL.br_f ?_ | refine DL.br_not ?_ | refine DL.br_eqT (by with_unfolding_all rfl) ?_ | refine DL.br_eqF (by with_unfolding_all rfl) ?_
    | refine DL.op_mod (by with_unfolding_all decide) ?_ | refine DL.op_div (by with_unfolding_all decide) ?_ | refine DL.op_mul (DL.mul_r (by with_unfolding_all decide)) ?_ | refine DL.op_mul (DL.mul_l (by with_unfolding_all decide)) ?_ | refine DL.op_pow (by with_unfolding_all decide) ?_
    | refine DL.w_seq ?_ | refine DL.w_next ?_ | refine DL.w_if ?_ | refine DL.w_match ?_ | refine DL.pickP_of (by with_unfolding_all decide) ?_ | refine DL.sp_t ?_ | refine DL.sp_f (by with_unfolding_all decide) ?_ | refine DL.sp_n ?_ | refine DL.w_rt ?_ | refine DL.w_set ?_ | refine DL.w_drop ?_ | refine DL.w_app (by with_unfolding_all rfl) ?_ | (refine DL.appP_of (by with_unfolding_all rfl) (by first | assumption | with_unfolding_all exact Nat.le_of_ble_eq_true rfl | (simp only [List.length_append, List.length_map, List.length_cons, List.length_nil]; omega)) ?_; simp only [List.set_cons_succ, List.set_cons_zero, DL.O.flat]) | refine DL.w_forP ?_ | refine DL.w_sforv (by with_unfolding_all rfl) (by with_unfolding_all rfl) ?_ | refine DL.w_asg ?_ | refine DL.w_forV ?_ | refine DL.sqt_if ?_ | refine DL.sqt_rt ?_ | refine DL.sqt_next ?_
    | refine DL.sz (by with_unfolding_all exact Nat.le_of_ble_eq_true rfl) ?_
    | refine DL.outI_im (by with_unfolding_all exact Nat.le_of_ble_eq_true rfl) ?_ | refine DL.outI_new (by with_unfolding_all exact Nat.le_of_ble_eq_true rfl) ?_ | refine DL.outI_bor (by with_unfolding_all exact Nat.le_of_ble_eq_true rfl) (by with_unfolding_all rfl) ?_
    | exact DL.us_next | exact DL.us_bk | exact DL.us_ct | exact DL.us_rtN | refine DL.us_seq ?_ ?_ | refine DL.us_if ?_ ?_ ?_ | refine DL.us_rt ?_ | refine DL.us_drop ?_ | refine DL.us_setI (by decide) ?_
    | exact DL.ud_pure | exact DL.ud_lift | exact DL.ud_xf | exact DL.ud_xi | exact DL.ud_var (by decide) | exact DL.ud_frz (by decide)
    | refine DL.ud_imR ?_ | refine DL.ud_vw ?_ | refine DL.ud_dtup ?_ | refine DL.ud_dlst ?_ | refine DL.ud_dcons ?_ ?_ | refine DL.ud_dconsV ?_ ?_ | refine DL.ud_dbin ?_ ?_ | refine DL.ud_dcmp ?_ ?_ | refine DL.ud_dtB ?_ | refine DL.ud_dtru ?_
    | refine DL.ud_dnot ?_ | refine DL.ud_dand ?_ ?_ | refine DL.ud_dor ?_ ?_ | refine DL.ud_dnotV ?_ | refine DL.ud_dandV ?_ ?_ | refine DL.ud_dorV ?_ ?_ | refine DL.ud_dif ?_ ?_ ?_ | refine DL.ud_imD ?_ | refine DL.ud_fl ?_ | refine DL.ud_dixO ?_ ?_ | refine DL.ud_dixX ?_ ?_ | exact DL.ud_ow (by decide) | exact DL.ud_meth0 (by decide) | (refine DL.ud_bind ?_ fun _ => ?_)
    | refine DL.w_op (by with_unfolding_all rfl) ?_ | rfl)

def ch18 (i : Nat) : Bool := match elemOO (.im (.str (Str.ofString "()0123456789:- TFa"))) (.int (i : Int)) with
  | some (.im (.str z)) => z.cps.all (· < 128) && z.cps.size == 1
  | _ => false
theorem ch18_ok : ∀ i : Fin 18, ch18 i.val = true := by decide +kernel
theorem op_ch18 {m : Int} {P : O → Prop} (p : ∀ c, c < 128 → P (.im (.str (S [c])))) : OP (elemOO (.im (.str (Str.ofString "()0123456789:- TFa"))) (.int (m.fmod 18))) P := by
  have f := fm m (b := 18) (by decide)
  obtain ⟨i, hi, hlt⟩ : ∃ i : Nat, m.fmod 18 = i ∧ i < 18 := ⟨(m.fmod 18).toNat, by omega, by omega⟩
  rw [hi]
  have key := ch18_ok ⟨i, hlt⟩
  unfold ch18 at key
  split at key
  · rename_i z hz
    obtain ⟨c, rfl, hc⟩ := one_sign key
    exact ⟨_, hz, p c hc⟩
  · cases key
theorem op_to1 {l : List Nat} {a : Nat} {ai : Int} {P : Rv → Prop} (hz : l.length ≤ 1000000) (ha : ai = (a : Int)) (p : P (.im (.str (S (l.take a))))) : OP (cutO (.im (.str (S l))) none (some ai)) P := by
  refine ⟨_, ?_, p⟩
  subst ha
  show (if (S l).length ≤ sizeLine then some (Rv.im (.str (L2.cutS (S l) (some ((0 : Nat) : Int)) (some (a : Int))))) else none) = _
  rw [if_pos (by rw [S_len]; exact Nat.le_trans hz (by decide)), cutS_eq (Nat.zero_le _)]
  rfl
theorem op_from1 {l : List Nat} {a : Nat} {ai : Int} {P : Rv → Prop} (hz : l.length ≤ 1000000) (ha : ai = (a : Int)) (p : P (.im (.str (S (l.drop a))))) : OP (cutO (.im (.str (S l))) (some ai) none) P := by
  refine ⟨_, ?_, p⟩
  subst ha
  show (if (S l).length ≤ sizeLine then some (Rv.im (.str (L2.cutS (S l) (some (a : Int)) none))) else none) = _
  rw [if_pos (by rw [S_len]; exact Nat.le_trans hz (by decide))]
  unfold L2.cutS
  rw [HT.sIx_nat, HT.sIx_none, S_len, show (S l).cps.toList = l from rfl]
  by_cases h : a ≤ l.length
  · rw [Nat.min_eq_left h, List.take_of_length_le (by rw [List.length_drop]; omega)]
  · rw [Nat.min_eq_right (by omega), List.drop_eq_nil_of_le (Nat.le_refl _), List.drop_eq_nil_of_le (by omega), List.take_nil]
theorem op_mid1 {l : List Nat} {a b : Nat} {ai bi : Int} {P : Rv → Prop} (hz : l.length ≤ 1000000) (ha : ai = (a : Int)) (hb : bi = (b : Int)) (p : P (.im (.str (S ((l.drop a).take (b - a)))))) : OP (cutO (.im (.str (S l))) (some ai) (some bi)) P := by
  by_cases h : a ≤ l.length
  · exact op_sliceI h hz ha hb p
  · refine ⟨_, ?_, p⟩
    subst ha hb
    show (if (S l).length ≤ sizeLine then some (Rv.im (.str (L2.cutS (S l) (some (a : Int)) (some (b : Int))))) else none) = _
    rw [if_pos (by rw [S_len]; exact Nat.le_trans hz (by decide))]
    unfold L2.cutS
    rw [HT.sIx_nat, HT.sIx_nat, S_len, show (S l).cps.toList = l from rfl, Nat.min_eq_right (by omega : l.length ≤ a), List.drop_eq_nil_of_le (Nat.le_refl _), List.drop_eq_nil_of_le (by omega), List.take_nil, List.take_nil]
theorem ok_tk {l : List Nat} (h : ok l) (n : Nat) : ok (l.take n) := fun c hc => h c (List.mem_of_mem_take hc)
theorem ok_dp {l : List Nat} (h : ok l) (n : Nat) : ok (l.drop n) := fun c hc => h c (List.mem_of_mem_drop hc)
theorem spoilt_ok {x : List Nat} (hx : ok x) (hz : x.length ≤ 900000) (way n : Int) : FI f__law_spoilt [.str (S x), .int way, .int n] fun r => ∃ y, r = .im (.str (S y)) ∧ ok y ∧ y.length ≤ x.length + 1 := by
  refine w_fi ?_
  unfold d__law_spoilt
  show SW _ [some (false, .im _), some (false, .im _), some (false, .im _), none, none] _
  refine w_seqM (fun e => ∃ c, e = [some (false, .im (.str (S x))), some (false, .im (.int way)), some (false, .im (.int n)), some (false, .im (.str (S [c]))), none] ∧ c < 128) ?_ ?_
  · trivial
    refine op_ch18 fun c hc => ?_
    trivial
    exact ⟨c, rfl, hc⟩
  rintro e ⟨c, rfl, hc⟩
  refine w_seqM (fun e => ∃ p : Nat, e = [some (false, .im (.str (S x))), some (false, .im (.int way)), some (false, .im (.int n)), some (false, .im (.str (S [c]))), some (false, .im (.int (p : Int)))] ∧ p ≤ x.length) ?_ ?_
  · trivial
    refine op_lenS (by omega) ?_
    trivial
    have f := fm (n * 31 + n.fdiv 18) (b := (x.length : Int) + 1) (by omega)
    obtain ⟨p, hp, hp2⟩ : ∃ p : Nat, (n * 31 + n.fdiv 18).fmod ((x.length : Int) + 1) = (p : Int) ∧ p ≤ x.length := ⟨((n * 31 + n.fdiv 18).fmod ((x.length : Int) + 1)).toNat, by omega, by omega⟩
    rw [hp]
    exact ⟨p, rfl, hp2⟩
  rintro e ⟨p, rfl, hp⟩
  have oc : ok [c] := ok_one hc
  have l1 : (x.take p).length = p := by rw [List.length_take]; omega
  have l2 : (x.drop p).length = x.length - p := by rw [List.length_drop]
  have l3 : (x.drop (p + 1)).length = x.length - (p + 1) := by rw [List.length_drop]
  have l4 : (x.drop (p + 2)).length = x.length - (p + 2) := by rw [List.length_drop]
  have l5 : ((x.drop p).take 1).length ≤ 1 := by rw [List.length_take]; omega
  have l6 : ((x.drop (p + 1)).take 1).length ≤ 1 := by rw [List.length_take]; omega
  have l5' : ((x.drop p).take 1).length ≤ x.length - p := by rw [List.length_take]; omega
  have l6' : ((x.drop (p + 1)).take 1).length ≤ x.length - (p + 1) := by rw [List.length_take]; omega
  have lc : [c].length = 1 := rfl
  trivial
  refine br_dec (fun _ => ?_) (fun _ => ?_)
  · trivial
    refine op_to1 (a := p) (by omega) rfl ?_
    trivial
    refine op_from1 (a := p + 1) (by omega) (by omega) ?_
    trivial
    refine op_cat (by omega) ?_
    trivial
    exact ⟨_, rfl, ok_app (ok_tk hx _) (ok_dp hx _), by rw [List.length_append]; omega⟩
  trivial
  refine br_dec (fun _ => ?_) (fun _ => ?_)
  · trivial
    refine op_to1 (a := p) (by omega) rfl ?_
    trivial
    refine op_cat (by omega) ?_
    trivial
    refine op_from1 (a := p) (by omega) rfl ?_
    trivial
    refine op_cat (by rw [List.length_append]; omega) ?_
    trivial
    exact ⟨_, rfl, ok_app (ok_app (ok_tk hx _) oc) (ok_dp hx _), by rw [List.length_append, List.length_append]; omega⟩
  trivial
  refine br_dec (fun _ => ?_) (fun _ => ?_)
  · trivial
    refine op_to1 (a := p) (by omega) rfl ?_
    trivial
    refine op_cat (by omega) ?_
    trivial
    refine op_from1 (a := p + 1) (by omega) (by omega) ?_
    trivial
    refine op_cat (by rw [List.length_append]; omega) ?_
    trivial
    exact ⟨_, rfl, ok_app (ok_app (ok_tk hx _) oc) (ok_dp hx _), by rw [List.length_append, List.length_append]; omega⟩
  trivial
  refine br_dec (fun _ => ?_) (fun _ => ?_)
  · trivial
    refine op_to1 (a := p) (by omega) rfl ?_
    trivial
    refine op_mid1 (a := p) (b := p + 1) (by omega) rfl (by omega) ?_
    rw [show p + 1 - p = 1 by omega]
    trivial
    refine op_cat (by omega) ?_
    trivial
    refine op_from1 (a := p) (by omega) rfl ?_
    trivial
    refine op_cat (by rw [List.length_append]; omega) ?_
    trivial
    exact ⟨_, rfl, ok_app (ok_app (ok_tk hx _) (ok_tk (ok_dp hx _) _)) (ok_dp hx _), by rw [List.length_append, List.length_append]; omega⟩
  trivial
  refine br_dec (fun _ => ?_) (fun _ => ?_)
  · trivial
    refine op_to1 (a := p) (by omega) rfl ?_
    trivial
    refine op_mid1 (a := p + 1) (b := p + 2) (by omega) (by omega) (by omega) ?_
    rw [show p + 2 - (p + 1) = 1 by omega]
    trivial
    refine op_cat (by omega) ?_
    trivial
    refine op_mid1 (a := p) (b := p + 1) (by omega) rfl (by omega) ?_
    rw [show p + 1 - p = 1 by omega]
    trivial
    refine op_cat (by rw [List.length_append]; omega) ?_
    trivial
    refine op_from1 (a := p + 2) (by omega) (by omega) ?_
    trivial
    refine op_cat (by rw [List.length_append, List.length_append]; omega) ?_
    trivial
    exact ⟨_, rfl, ok_app (ok_app (ok_app (ok_tk hx _) (ok_tk (ok_dp hx _) _)) (ok_tk (ok_dp hx _) _)) (ok_dp hx _), by rw [List.length_append, List.length_append, List.length_append]; omega⟩
  trivial
  refine op_to1 (a := p) (by omega) rfl ?_
  trivial
  exact ⟨_, rfl, ok_tk hx _, by omega⟩
end K73

namespace K73
open PySem DL TOK NTN RDT
local macro_rules
  | `(tactic| trivial) => `(tactic| repeat' with_reducible first
    | refine DL.w_pure ?_ | refine DL.w_dq ?_ | refine DL.w_imR ?_ | refine DL.w_imD ?_ | refine DL.w_fl ?_ | refine DL.w_bin ?_ | refine DL.w_cmp ?_ | refine DL.w_rev ?_ | refine DL.w_cat ?_ | refine DL.w_chain ?_ | refine DL.w_dtB ?_ | refine DL.w_dtru ?_
    | refine DL.w_frzI (by with_unfolding_all rfl) ?_ | refine DL.w_vwI (by with_unfolding_all rfl) ?_ | refine DL.w_owO (by with_unfolding_all rfl) ?_ | refine DL.w_varI (by with_unfolding_all rfl) ?_ | refine DL.w_varL (by with_unfolding_all rfl) ?_ | refine DL.w_varT (by with_unfolding_all rfl) ?_
    | refine DL.w_vwO (by with_unfolding_all rfl) ?_ | (refine DL.w_frzO (by with_unfolding_all rfl) ?_; simp only [List.set_cons_succ, List.set_cons_zero, DL.O.flat])
    | refine DL.w_dcons ?_ | refine DL.w_dconsV ?_ | refine DL.w_darcons ?_ | (refine DL.w_dtup ?_) | refine DL.w_dlst ?_ | refine DL.w_dixO ?_ | refine DL.w_sq ?_ | refine DL.w_dixX ?_ | refine DL.w_listX ?_ | refine DL.w_sorted ?_ | refine DL.w_un ?_ | refine DL.w_sqC ?_ | refine DL.w_forC ?_ | refine DL.op_fldI (by with_unfolding_all rfl) ?_ | refine DL.w_rg ?_ | refine DL.w_rvO ?_ | refine DL.w_dslice ?_ | refine DL.w_dtmc ?_ | refine DL.w_dtupN ?_ | refine DL.w_dlist ?_ | refine DL.w_dtuple ?_ | refine DL.w_tupV ?_ | refine DL.w_listV ?_
    | refine DL.w_bind ?_ | refine DL.w_lift ?_ | refine DL.w_frz ?_ | refine DL.w_vw ?_ | refine DL.w_ow ?_
    | refine DL.w_dand ?_ | refine DL.w_dor ?_ | refine DL.w_dnot ?_ | refine DL.w_dandV ?_ | refine DL.w_dorV ?_ | refine DL.w_dnotV ?_ | refine DL.w_dif ?_
    | refine DL.frzP_im ?_ | refine DL.frzP_new ?_ | refine DL.vwP_im ?_ | refine DL.vwP_new ?_ | refine DL.vwP_bor ?_ | refine DL.owP_im ?_ | refine DL.owP_new ?_ | refine DL.owP_bor ?_
    | (refine DL.setP_im (by with_unfolding_all first | rfl | exact DL.fo_free rfl) ?_; simp only [List.set_cons_succ, List.set_cons_zero, DL.O.flat]) | (refine DL.setP_new (by with_unfolding_all first | rfl | exact DL.fo_free rfl) ?_; simp only [List.set_cons_succ, List.set_cons_zero, DL.O.flat])
    | refine DL.argP_im ?_ | refine DL.argP_new ?_ | refine DL.argP_bor ?_ | refine DL.rvP_im ?_ | refine DL.rvP_new ?_ | refine DL.mvP_im ?_ | refine DL.mvP_new ?_ | (refine DL.mvP_bor (by with_unfolding_all rfl) ?_; simp only [List.set_cons_succ, List.set_cons_zero]) | refine DL.itP_im ?_ | refine DL.itP_new ?_ | refine DL.tuP_lst ?_ | refine DL.blP_of ?_
    | refine DL.op_rng (by with_unfolding_all decide) ?_ | refine DL.op_rngG ?_ | refine DL.op_isiII ?_ | refine DL.op_isiIB ?_ | refine DL.op_isiTT ?_ | refine DL.op_isiLL ?_
    | refine DL.op_eq ?_ | refine DL.op_ne ?_ | refine DL.br_t ?_ | refine DL.br_f ?_ | refine DL.br_not ?_ | refine DL.br_eqT (by with_unfolding_all rfl) ?_ | refine DL.br_eqF (by with_unfolding_all rfl) ?_
    | refine DL.op_mod (by with_unfolding_all decide) ?_ | refine DL.op_div (by with_unfolding_all decide) ?_ | refine DL.op_mul (DL.mul_r (by with_unfolding_all decide)) ?_ | refine DL.op_mul (DL.mul_l (by with_unfolding_all decide)) ?_ | refine DL.op_pow (by with_unfolding_all decide) ?_
    | refine DL.w_seq ?_ | refine DL.w_next ?_ | refine DL.w_if ?_ | refine DL.w_match ?_ | refine DL.pickP_of (by with_unfolding_all decide) ?_ | refine DL.sp_t ?_ | refine DL.sp_f (by with_unfolding_all decide) ?_ | refine DL.sp_n ?_ | refine DL.w_rt ?_ | refine DL.w_set ?_ | refine DL.w_drop ?_ | refine DL.w_app (by with_unfolding_all rfl) ?_ | (refine DL.appP_of (by with_unfolding_all rfl) (by first | assumption | with_unfolding_all exact Nat.le_of_ble_eq_true rfl | (simp only [List.length_append, List.length_map, List.length_cons, List.length_nil]; omega)) ?_; simp only [List.set_cons_succ, List.set_cons_zero, DL.O.flat]) | refine DL.w_forP ?_ | refine DL.w_sforv (by with_unfolding_all rfl) (by with_unfolding_all rfl) ?_ | refine DL.w_asg ?_ | refine DL.w_forV ?_ | refine DL.sqt_if ?_ | refine DL.sqt_rt ?_ | refine DL.sqt_next ?_
    | refine DL.sz (by with_unfolding_all exact Nat.le_of_ble_eq_true rfl) ?_
    | refine DL.outI_im (by with_unfolding_all exact Nat.le_of_ble_eq_true rfl) ?_ | refine DL.outI_new (by with_unfolding_all exact Nat.le_of_ble_eq_true rfl) ?_ | refine DL.outI_bor (by with_unfolding_all exact Nat.le_of_ble_eq_true rfl) (by with_unfolding_all rfl) ?_
    | exact DL.us_next | exact DL.us_bk | exact DL.us_ct | exact DL.us_rtN | refine DL.us_seq ?_ ?_ | refine DL.us_if ?_ ?_ ?_ | refine DL.us_rt ?_ | refine DL.us_drop ?_ | refine DL.us_setI (by decide) ?_
    | exact DL.ud_pure | exact DL.ud_lift | exact DL.ud_xf | exact DL.ud_xi | exact DL.ud_var (by decide) | exact DL.ud_frz (by decide)
    | refine DL.ud_imR ?_ | refine DL.ud_vw ?_ | refine DL.ud_dtup ?_ | refine DL.ud_dlst ?_ | refine DL.ud_dcons ?_ ?_ | refine DL.ud_dconsV ?_ ?_ | refine DL.ud_dbin ?_ ?_ | refine DL.ud_dcmp ?_ ?_ | refine DL.ud_dtB ?_ | refine DL.ud_dtru ?_
    | refine DL.ud_dnot ?_ | refine DL.ud_dand ?_ ?_ | refine DL.ud_dor ?_ ?_ | refine DL.ud_dnotV ?_ | refine DL.ud_dandV ?_ ?_ | refine DL.ud_dorV ?_ ?_ | refine DL.ud_dif ?_ ?_ ?_ | refine DL.ud_imD ?_ | refine DL.ud_fl ?_ | refine DL.ud_dixO ?_ ?_ | refine DL.ud_dixX ?_ ?_ | exact DL.ud_ow (by decide) | exact DL.ud_meth0 (by decide) | (refine DL.ud_bind ?_ fun _ => ?_)
    | refine DL.w_op (by with_unfolding_all rfl) ?_ | rfl)

theorem drawn_ok {sc : List Int} {d : D} {m : Nat} {ns : List Int} (hd : ScD sc d) (hb : ∀ z ∈ sc, z.natAbs < 2 ^ mostBits) (hs : Sm m ns) (h16 : 16 ≤ m) (hm : m ≤ 300) : FI f__law_drawn_text [d, .lst (ns.map D.int)] fun r => ∃ y, r = .im (.str (S y)) ∧ ok y ∧ y.length ≤ 500000 := by
  refine w_fi ?_
  unfold d__law_drawn_text
  show SW _ [some (false, .im _), some (false, .im _), none, none, none] _
  trivial
  refine op_sm hs (by omega) (by omega) fun n n0 n1 => ?_
  trivial
  refine br_dec (fun _ => ?_) (fun _ => ?_)
  · trivial
    refine op_sm hs (by omega) (by omega) fun n2 n20 n21 => ?_
    trivial
    refine w_call (ds := [.int _]) (odd_ok _) rfl ?_
    rintro v ⟨y, rfl, h1, h2⟩
    dsimp only [rvF]
    trivial
    exact ⟨y, rfl, h1, by omega⟩
  trivial
  refine op_sm hs (by omega) (by omega) fun n n0 n1 => ?_
  trivial
  refine br_dec (fun _ => ?_) (fun _ => ?_)
  · refine w_seqM (fun e => ∃ many : Nat, e = [some (false, .im d), some (false, .im (.lst (ns.map D.int))), some (false, .im (.int (many : Int))), none, none] ∧ many ≤ 60 ∧ many + 2 ≤ m) ?_ ?_
    · trivial
      refine op_sm hs (by omega) (by omega) fun n2 n20 n21 => ?_
      trivial
      rw [List.length_map, hs.1]
      have f := fm n2 (b := 61) (by decide)
      obtain ⟨many, e, h1, h2⟩ : ∃ many : Nat, (if (m : Int) - 2 < n2.fmod 61 then (m : Int) - 2 else n2.fmod 61) = many ∧ many ≤ 60 ∧ many + 2 ≤ m := ⟨(if (m : Int) - 2 < n2.fmod 61 then (m : Int) - 2 else n2.fmod 61).toNat, by split <;> omega, by split <;> omega, by split <;> omega⟩
      rw [e]
      exact ⟨many, rfl, h1, h2⟩
    rintro e ⟨many, rfl, h1, h2⟩
    trivial
    refine w_join (a := Str.ofString "") ?_
    trivial
    refine ⟨rfl, ?_⟩
    trivial
    refine w_compU (fun (i : Nat) => D.int (i : Int)) (fun c : Nat => O.im (.str (S [c]))) (fun _ c => c < 128) ?_
    trivial
    refine ⟨⟨by omega, by omega⟩, List.range many, by rw [show many = (many : Int).toNat from rfl]; exact rangeD_map _, ⟨rfl, rfl⟩, Nat.le_of_lt (sz_of (by rw [List.length_range]; omega)), ?_, ?_⟩
    · intro i hi
      have hi : i < many := List.mem_range.mp hi
      refine ⟨_, rfl, ?_⟩
      trivial
      refine op_sm hs (by omega) (by omega) fun n2 n20 n21 => ?_
      trivial
      refine op_ch18 fun c hc => ?_
      trivial
      exact ⟨⟨c, rfl, hc⟩, rfl⟩
    · intro bs hb hR
      rw [List.length_range] at hb
      trivial
      rw [flat_map]
      have okb : ok bs := fun c hc => by
        obtain ⟨j, hj, rfl⟩ := List.mem_iff_getElem.mp hc
        exact hR j j _ (by rw [List.getElem?_range (by omega)]) (List.getElem?_eq_getElem hj)
      refine op_join (g := fun c => S [c]) (l := bs) ?_ ?_
      · have e : ((bs.map fun c => S [c]).map fun x : Str => x.length).sum = bs.length := by
          clear hb hR okb
          induction bs with
          | nil => rfl
          | cons b bs ih => rw [List.map_cons, List.map_cons, List.sum_cons, ih, S_len]; show 1 + bs.length = bs.length + 1; omega
        rw [e, show (Str.ofString "").length = 0 by decide +kernel, hb]
        omega
      rw [join_one]
      trivial
      exact ⟨bs, rfl, okb, by omega⟩
  refine w_next ?_
  refine w_seqM (fun e => ∃ y, e = [some (false, .im d), some (false, .im (.lst (ns.map D.int))), none, some (false, .im (.str (S y))), none] ∧ ok y ∧ y.length ≤ 400000) ?_ ?_
  · trivial
    obtain ⟨ns2, e2, l2, m2⟩ := cut_map ns (some 9) none
    rw [show (O.lst (List.map O.im (cutD (List.map D.int ns) (some 9) none))).flat = .lst (ns2.map D.int) from by rw [e2]; show D.lst (O.flats _) = _; rw [flats_im]]
    refine w_call (ds := [_, .lst _]) (value_ok' (m := ns2.length) hd hb ⟨rfl, fun n hn => hs.2 n (m2 n hn)⟩ (by have := hs.1; omega)) rfl ?_
    rintro v ⟨vd, w, rfl, h1, h2⟩
    dsimp only [rvF]
    trivial
    refine w_callI (ds := [_]) (_law_written_ok 12 h1 (by omega) 20 (by omega)) rfl ?_
    trivial
    exact ⟨w, rfl, h1.ok, h2⟩
  rintro e ⟨y, rfl, oy, ly⟩
  refine w_seqM (fun e => ∃ y, e = [some (false, .im d), some (false, .im (.lst (ns.map D.int))), none, some (false, .im (.str (S y))), none] ∧ ok y ∧ y.length ≤ 400100) ?_ ?_
  · trivial
    refine op_sm hs (by omega) (by omega) fun n n0 n1 => ?_
    trivial
    refine br_dec (fun _ => ?_) (fun _ => ?_)
    · trivial
      refine op_sm hs (by omega) (by omega) fun k k0 k1 => ?_
      trivial
      have f := fm k (b := 3) (by decide)
      have r1 : ∀ c : Nat, (List.replicate (k.fmod 3 + 9).toNat c).length ≤ 12 := fun c => by rw [List.length_replicate]; omega
      refine op_mulC (c := 40) (by decide +kernel) (by omega) (by omega) ?_
      trivial
      refine op_cat (by have := r1 40; omega) ?_
      trivial
      refine op_sm hs (by omega) (by omega) fun k2 k20 k21 => ?_
      trivial
      have f := fm k2 (b := 3) (by decide)
      have r2 : ∀ c : Nat, (List.replicate (k2.fmod 3 + 9).toNat c).length ≤ 12 := fun c => by rw [List.length_replicate]; omega
      refine op_mulC (c := 41) (by decide +kernel) (by omega) (by omega) ?_
      trivial
      refine op_cat (by have := r1 40; have := r2 41; rw [List.length_append]; omega) ?_
      trivial
      exact ⟨_, rfl, ok_app (ok_app (ok_repl (by omega) _) oy) (ok_repl (by omega) _), by have := r1 40; have := r2 41; rw [List.length_append, List.length_append]; omega⟩
    · trivial
      exact ⟨y, rfl, oy, by omega⟩
  clear oy ly y
  rintro e ⟨y, rfl, oy, ly⟩
  trivial
  refine op_sm hs (by omega) (by omega) fun n n0 n1 => ?_
  trivial
  have f := fm n (b := 4) (by decide)
  refine ⟨⟨f.1, by omega⟩, ?_⟩
  refine sw_range (fun i e => ∃ y s4, e = [some (false, .im d), some (false, .im (.lst (ns.map D.int))), none, some (false, .im (.str (S y))), fo s4] ∧ ok y ∧ y.length ≤ 400100 + i) ⟨y, none, rfl, oy, by omega⟩ ?_ ?_
  · rintro i e hi ⟨y, s4, rfl, oy, ly⟩
    have hi : i < 4 := by omega
    refine ⟨_, if_pos (fo_free rfl), ?_⟩
    simp only [List.set_cons_succ, List.set_cons_zero]
    trivial
    refine op_sm hs (by omega) (by omega) fun a a0 a1 => ?_
    trivial
    refine op_sm hs (by omega) (by omega) fun b b0 b1 => ?_
    trivial
    refine w_call (ds := [.str _, .int _, .int _]) (spoilt_ok oy (by omega) _ _) rfl ?_
    rintro v ⟨y2, rfl, h1, h2⟩
    dsimp only [rvF]
    trivial
    exact ⟨y2, some (.im (.int i)), rfl, h1, by omega⟩
  · rintro e ⟨y, s4, rfl, oy, ly⟩
    trivial
    exact ⟨y, rfl, oy, by omega⟩
end K73

namespace K73
open PySem DL TOK NTN RDT
local macro_rules
  | `(tactic| trivial) => `(tactic| repeat' with_reducible first
    | refine DL.w_pure ?_ | refine DL.w_dq ?_ | refine DL.w_imR ?_ | refine DL.w_imD ?_ | refine DL.w_fl ?_ | refine DL.w_bin ?_ | refine DL.w_cmp ?_ | refine DL.w_rev ?_ | refine DL.w_cat ?_ | refine DL.w_chain ?_ | refine DL.w_dtB ?_ | refine DL.w_dtru ?_
    | refine DL.w_frzI (by with_unfolding_all rfl) ?_ | refine DL.w_vwI (by with_unfolding_all rfl) ?_ | refine DL.w_owO (by with_unfolding_all rfl) ?_ | refine DL.w_varI (by with_unfolding_all rfl) ?_ | refine DL.w_varL (by with_unfolding_all rfl) ?_ | refine DL.w_varT (by with_unfolding_all rfl) ?_
    | refine DL.w_vwO (by with_unfolding_all rfl) ?_ | (refine DL.w_frzO (by with_unfolding_all rfl) ?_; simp only [List.set_cons_succ, List.set_cons_zero, DL.O.flat])
    | refine DL.w_dcons ?_ | refine DL.w_dconsV ?_ | refine DL.w_darcons ?_ | (refine DL.w_dtup ?_) | refine DL.w_dlst ?_ | refine DL.w_dixO ?_ | refine DL.w_sq ?_ | refine DL.w_dixX ?_ | refine DL.w_listX ?_ | refine DL.w_sorted ?_ | refine DL.w_un ?_ | refine DL.w_sqC ?_ | refine DL.w_forC ?_ | refine DL.op_fldI (by with_unfolding_all rfl) ?_ | refine DL.w_rg ?_ | refine DL.w_rvO ?_ | refine DL.w_dslice ?_ | refine DL.w_dtmc ?_ | refine DL.w_dtupN ?_ | refine DL.w_dlist ?_ | refine DL.w_dtuple ?_ | refine DL.w_tupV ?_ | refine DL.w_listV ?_
    | refine DL.w_bind ?_ | refine DL.w_lift ?_ | refine DL.w_frz ?_ | refine DL.w_vw ?_ | refine DL.w_ow ?_
    | refine DL.w_dand ?_ | refine DL.w_dor ?_ | refine DL.w_dnot ?_ | refine DL.w_dandV ?_ | refine DL.w_dorV ?_ | refine DL.w_dnotV ?_ | refine DL.w_dif ?_
    | refine DL.frzP_im ?_ | refine DL.frzP_new ?_ | refine DL.vwP_im ?_ | refine DL.vwP_new ?_ | refine DL.vwP_bor ?_ | refine DL.owP_im ?_ | refine DL.owP_new ?_ | refine DL.owP_bor ?_
    | (refine DL.setP_im (by with_unfolding_all first | rfl | exact DL.fo_free rfl) ?_; simp only [List.set_cons_succ, List.set_cons_zero, DL.O.flat]) | (refine DL.setP_new (by with_unfolding_all first | rfl | exact DL.fo_free rfl) ?_; simp only [List.set_cons_succ, List.set_cons_zero, DL.O.flat])
    | refine DL.argP_im ?_ | refine DL.argP_new ?_ | refine DL.argP_bor ?_ | refine DL.rvP_im ?_ | refine DL.rvP_new ?_ | refine DL.mvP_im ?_ | refine DL.mvP_new ?_ | (refine DL.mvP_bor (by with_unfolding_all rfl) ?_; simp only [List.set_cons_succ, List.set_cons_zero]) | refine DL.itP_im ?_ | refine DL.itP_new ?_ | refine DL.tuP_lst ?_ | refine DL.blP_of ?_
    | refine DL.op_rng (by with_unfolding_all decide) ?_ | refine DL.op_rngG ?_ | refine DL.op_isiII ?_ | refine DL.op_isiIB ?_ | refine DL.op_isiTT ?_ | refine DL.op_isiLL ?_
    | refine DL.op_eq ?_ | refine DL.op_ne ?_ | refine DL.br_t ?_ | refine DL.br_f ?_ | refine DL.br_not ?_ | refine DL.br_eqT (by with_unfolding_all rfl) ?_ | refine DL.br_eqF (by with_unfolding_all rfl) ?_
    | refine DL.op_mod (by with_unfolding_all decide) ?_ | refine DL.op_div (by with_unfolding_all decide) ?_ | refine DL.op_mul (DL.mul_r (by with_unfolding_all decide)) ?_ | refine DL.op_mul (DL.mul_l (by with_unfolding_all decide)) ?_ | refine DL.op_pow (by with_unfolding_all decide) ?_
    | refine DL.w_seq ?_ | refine DL.w_next ?_ | refine DL.w_if ?_ | refine DL.w_match ?_ | refine DL.pickP_of (by with_unfolding_all decide) ?_ | refine DL.sp_t ?_ | refine DL.sp_f (by with_unfolding_all decide) ?_ | refine DL.sp_n ?_ | refine DL.w_rt ?_ | refine DL.w_set ?_ | refine DL.w_drop ?_ | refine DL.w_app (by with_unfolding_all rfl) ?_ | (refine DL.appP_of (by with_unfolding_all rfl) (by first | assumption | with_unfolding_all exact Nat.le_of_ble_eq_true rfl | (simp only [List.length_append, List.length_map, List.length_cons, List.length_nil]; omega)) ?_; simp only [List.set_cons_succ, List.set_cons_zero, DL.O.flat]) | refine DL.w_forP ?_ | refine DL.w_sforv (by with_unfolding_all rfl) (by with_unfolding_all rfl) ?_ | refine DL.w_asg ?_ | refine DL.w_forV ?_ | refine DL.sqt_if ?_ | refine DL.sqt_rt ?_ | refine DL.sqt_next ?_
    | refine DL.sz (by with_unfolding_all exact Nat.le_of_ble_eq_true rfl) ?_
    | refine DL.outI_im (by with_unfolding_all exact Nat.le_of_ble_eq_true rfl) ?_ | refine DL.outI_new (by with_unfolding_all exact Nat.le_of_ble_eq_true rfl) ?_ | refine DL.outI_bor (by with_unfolding_all exact Nat.le_of_ble_eq_true rfl) (by with_unfolding_all rfl) ?_
    | exact DL.us_next | exact DL.us_bk | exact DL.us_ct | exact DL.us_rtN | refine DL.us_seq ?_ ?_ | refine DL.us_if ?_ ?_ ?_ | refine DL.us_rt ?_ | refine DL.us_drop ?_ | refine DL.us_setI (by decide) ?_
    | exact DL.ud_pure | exact DL.ud_lift | exact DL.ud_xf | exact DL.ud_xi | exact DL.ud_var (by decide) | exact DL.ud_frz (by decide)
    | refine DL.ud_imR ?_ | refine DL.ud_vw ?_ | refine DL.ud_dtup ?_ | refine DL.ud_dlst ?_ | refine DL.ud_dcons ?_ ?_ | refine DL.ud_dconsV ?_ ?_ | refine DL.ud_dbin ?_ ?_ | refine DL.ud_dcmp ?_ ?_ | refine DL.ud_dtB ?_ | refine DL.ud_dtru ?_
    | refine DL.ud_dnot ?_ | refine DL.ud_dand ?_ ?_ | refine DL.ud_dor ?_ ?_ | refine DL.ud_dnotV ?_ | refine DL.ud_dandV ?_ ?_ | refine DL.ud_dorV ?_ ?_ | refine DL.ud_dif ?_ ?_ ?_ | refine DL.ud_imD ?_ | refine DL.ud_fl ?_ | refine DL.ud_dixO ?_ ?_ | refine DL.ud_dixX ?_ ?_ | exact DL.ud_ow (by decide) | exact DL.ud_meth0 (by decide) | (refine DL.ud_bind ?_ fun _ => ?_)
    | refine DL.w_op (by with_unfolding_all rfl) ?_ | rfl)

theorem base_bad {x : List Nat} {p : Int} (h : FE f_read [.str (S x)] (· = xn "BadNotation" (.int p))) : FI f__law_raises_base [.str (S x)] (· = .im (.bl true)) := by
  refine w_fi ?_
  unfold d__law_raises_base
  show SW _ [some (false, .im _), none] _
  refine w_seq (w_tryX ?_)
  refine se_drop (ee_bindR ?_)
  trivial
  refine ee_call (ds := [.str _]) (fe_imp h fun z hz => ?_) rfl
  subst hz
  refine w_hitAs rfl rfl rfl (us_uni (by trivial) rfl) ?_
  repeat (trivial; refine w_xi rfl rfl ?_)
  trivial
  refine ⟨rfl, ?_, fun o z => by cases z⟩
  trivial
theorem tape_ok (sc : List Int) (hl : sc.length ≤ 63) : FI f__law_tape [.scr (sc.map D.int), .int 16, .int 1] fun r => ∃ m ns, r = .im (.lst (ns.map D.int)) ∧ Sm m ns ∧ 16 ≤ m ∧ m ≤ 300 := by
  refine w_fi ?_
  unfold d__law_tape
  show SW _ [some (false, .im _), some (false, .im _), some (false, .im _), none, none] _
  refine w_seqM (fun e => ∃ ns, e = [some (false, .im (.scr (sc.map D.int))), some (false, .im (.int 16)), some (false, .im (.int 1)), some (false, .im (.lst (ns.map D.int))), none] ∧ Sm 16 ns) ?_ ?_
  · trivial
    refine w_callI (ds := [.scr _, .int 0]) (cell_ok sc 0 (by omega)) rfl ?_
    trivial
    refine w_call (ds := [.int _, .int 16]) (numbers_ok _ 16 (by omega) (by omega)) rfl ?_
    rintro v ⟨ns, rfl, hs⟩
    dsimp only [rvF]
    trivial
    exact ⟨ns, by rw [flats_int], hs⟩
  rintro e ⟨ns, rfl, hs⟩
  trivial
  rw [flats_im, cut_one, ← List.map_drop]
  have hdl : (sc.drop 1).length ≤ 63 := by rw [List.length_drop]; omega
  refine sw_each (sc.drop 1) D.int (fun i e => ∃ ns s4, e = [some (false, .im (.scr (sc.map D.int))), some (false, .im (.int 16)), some (false, .im (.int 1)), some (false, .im (.lst (ns.map D.int))), fo s4] ∧ Sm (16 + 1 * i) ns) ⟨ns, none, rfl, hs⟩ ?_ ?_
  · rintro i a e hi ⟨ns, s4, rfl, hs⟩
    have hi := (List.getElem?_eq_some_iff.mp hi).1
    refine ⟨_, if_pos (fo_free rfl), ?_⟩
    simp only [List.set_cons_succ, List.set_cons_zero]
    trivial
    refine w_call (ds := [.int _, .int 1]) (numbers_ok _ 1 (by omega) (by omega)) rfl ?_
    rintro v ⟨ms, rfl, hs2⟩
    dsimp only [rvF]
    trivial
    refine ⟨.new (.lst ((ns ++ ms).map fun n => O.im (.int n))), ?_, ?_⟩
    · show (match some (ns.map D.int), lstV (O.im (.lst (O.flats (ms.map fun n => O.im (D.int n))))) with
        | some xs, some ys => if xs.length + ys.length ≤ sizeLine then some (Rv.new (.lst ((xs ++ ys).map O.im))) else none
        | _, _ => none) = _
      rw [flats_int]
      show (if (ns.map D.int).length + (ms.map D.int).length ≤ sizeLine then some (Rv.new (.lst ((ns.map D.int ++ ms.map D.int).map O.im))) else none) = _
      rw [if_pos (by rw [List.length_map, List.length_map, hs.1, hs2.1]; exact Nat.le_of_lt (sz_of (show 16 + 1 * i + 1 ≤ 1000 by omega))), ← List.map_append, List.map_map]
      rfl
    trivial
    exact ⟨ns ++ ms, some (.im (.int a)), by rw [flats_int]; rfl, (show 16 + 1 * (i + 1) = 16 + 1 * i + 1 by omega) ▸ hs.cat hs2⟩
  · rintro e ⟨ns, s4, rfl, hs⟩
    trivial
    exact ⟨_, ns, rfl, hs, by omega, by omega⟩
end K73

namespace K73
open PySem DL TOK NTN RDT
local macro_rules
  | `(tactic| trivial) => `(tactic| repeat' with_reducible first
    | refine DL.w_pure ?_ | refine DL.w_dq ?_ | refine DL.w_imR ?_ | refine DL.w_imD ?_ | refine DL.w_fl ?_ | refine DL.w_bin ?_ | refine DL.w_cmp ?_ | refine DL.w_rev ?_ | refine DL.w_cat ?_ | refine DL.w_chain ?_ | refine DL.w_dtB ?_ | refine DL.w_dtru ?_
    | refine DL.w_frzI (by with_unfolding_all rfl) ?_ | refine DL.w_vwI (by with_unfolding_all rfl) ?_ | refine DL.w_owO (by with_unfolding_all rfl) ?_ | refine DL.w_varI (by with_unfolding_all rfl) ?_ | refine DL.w_varL (by with_unfolding_all rfl) ?_ | refine DL.w_varT (by with_unfolding_all rfl) ?_
    | refine DL.w_vwO (by with_unfolding_all rfl) ?_ | (refine DL.w_frzO (by with_unfolding_all rfl) ?_; simp only [List.set_cons_succ, List.set_cons_zero, DL.O.flat])
    | refine DL.w_dcons ?_ | refine DL.w_dconsV ?_ | refine DL.w_darcons ?_ | (refine DL.w_dtup ?_) | refine DL.w_dlst ?_ | refine DL.w_dixO ?_ | refine DL.w_sq ?_ | refine DL.w_dixX ?_ | refine DL.w_listX ?_ | refine DL.w_sorted ?_ | refine DL.w_un ?_ | refine DL.w_sqC ?_ | refine DL.w_forC ?_ | refine DL.op_fldI (by with_unfolding_all rfl) ?_ | refine DL.w_rg ?_ | refine DL.w_rvO ?_ | refine DL.w_dslice ?_ | refine DL.w_dtmc ?_ | refine DL.w_dtupN ?_ | refine DL.w_dlist ?_ | refine DL.w_dtuple ?_ | refine DL.w_tupV ?_ | refine DL.w_listV ?_
    | refine DL.w_bind ?_ | refine DL.w_lift ?_ | refine DL.w_frz ?_ | refine DL.w_vw ?_ | refine DL.w_ow ?_
    | refine DL.w_dand ?_ | refine DL.w_dor ?_ | refine DL.w_dnot ?_ | refine DL.w_dandV ?_ | refine DL.w_dorV ?_ | refine DL.w_dnotV ?_ | refine DL.w_dif ?_
    | refine DL.frzP_im ?_ | refine DL.frzP_new ?_ | refine DL.vwP_im ?_ | refine DL.vwP_new ?_ | refine DL.vwP_bor ?_ | refine DL.owP_im ?_ | refine DL.owP_new ?_ | refine DL.owP_bor ?_
    | (refine DL.setP_im (by with_unfolding_all first | rfl | exact DL.fo_free rfl) ?_; simp only [List.set_cons_succ, List.set_cons_zero, DL.O.flat]) | (refine DL.setP_new (by with_unfolding_all first | rfl | exact DL.fo_free rfl) ?_; simp only [List.set_cons_succ, List.set_cons_zero, DL.O.flat])
    | refine DL.argP_im ?_ | refine DL.argP_new ?_ | refine DL.argP_bor ?_ | refine DL.rvP_im ?_ | refine DL.rvP_new ?_ | refine DL.mvP_im ?_ | refine DL.mvP_new ?_ | (refine DL.mvP_bor (by with_unfolding_all rfl) ?_; simp only [List.set_cons_succ, List.set_cons_zero]) | refine DL.itP_im ?_ | refine DL.itP_new ?_ | refine DL.tuP_lst ?_ | refine DL.blP_of ?_
    | refine DL.op_rng (by with_unfolding_all decide) ?_ | refine DL.op_rngG ?_ | refine DL.op_isiII ?_ | refine DL.op_isiIB ?_ | refine DL.op_isiTT ?_ | refine DL.op_isiLL ?_
    | refine DL.op_eq ?_ | refine DL.op_ne ?_ | refine DL.br_t ?_ | refine DL.br_f ?_ | refine DL.br_not ?_ | refine DL.br_eqT (by with_unfolding_all rfl) ?_ | refine DL.br_eqF (by with_unfolding_all rfl) ?_
    | refine DL.op_mod (by with_unfolding_all decide) ?_ | refine DL.op_div (by with_unfolding_all decide) ?_ | refine DL.op_mul (DL.mul_r (by with_unfolding_all decide)) ?_ | refine DL.op_mul (DL.mul_l (by with_unfolding_all decide)) ?_ | refine DL.op_pow (by with_unfolding_all decide) ?_
    | refine DL.w_seq ?_ | refine DL.w_next ?_ | refine DL.w_if ?_ | refine DL.w_match ?_ | refine DL.pickP_of (by with_unfolding_all decide) ?_ | refine DL.sp_t ?_ | refine DL.sp_f (by with_unfolding_all decide) ?_ | refine DL.sp_n ?_ | refine DL.w_rt ?_ | refine DL.w_set ?_ | refine DL.w_drop ?_ | refine DL.w_app (by with_unfolding_all rfl) ?_ | (refine DL.appP_of (by with_unfolding_all rfl) (by first | assumption | with_unfolding_all exact Nat.le_of_ble_eq_true rfl | (simp only [List.length_append, List.length_map, List.length_cons, List.length_nil]; omega)) ?_; simp only [List.set_cons_succ, List.set_cons_zero, DL.O.flat]) | refine DL.w_forP ?_ | refine DL.w_sforv (by with_unfolding_all rfl) (by with_unfolding_all rfl) ?_ | refine DL.w_asg ?_ | refine DL.w_forV ?_ | refine DL.sqt_if ?_ | refine DL.sqt_rt ?_ | refine DL.sqt_next ?_
    | refine DL.sz (by with_unfolding_all exact Nat.le_of_ble_eq_true rfl) ?_
    | refine DL.outI_im (by with_unfolding_all exact Nat.le_of_ble_eq_true rfl) ?_ | refine DL.outI_new (by with_unfolding_all exact Nat.le_of_ble_eq_true rfl) ?_ | refine DL.outI_bor (by with_unfolding_all exact Nat.le_of_ble_eq_true rfl) (by with_unfolding_all rfl) ?_
    | exact DL.us_next | exact DL.us_bk | exact DL.us_ct | exact DL.us_rtN | refine DL.us_seq ?_ ?_ | refine DL.us_if ?_ ?_ ?_ | refine DL.us_rt ?_ | refine DL.us_drop ?_ | refine DL.us_setI (by decide) ?_
    | exact DL.ud_pure | exact DL.ud_lift | exact DL.ud_xf | exact DL.ud_xi | exact DL.ud_var (by decide) | exact DL.ud_frz (by decide)
    | refine DL.ud_imR ?_ | refine DL.ud_vw ?_ | refine DL.ud_dtup ?_ | refine DL.ud_dlst ?_ | refine DL.ud_dcons ?_ ?_ | refine DL.ud_dconsV ?_ ?_ | refine DL.ud_dbin ?_ ?_ | refine DL.ud_dcmp ?_ ?_ | refine DL.ud_dtB ?_ | refine DL.ud_dtru ?_
    | refine DL.ud_dnot ?_ | refine DL.ud_dand ?_ ?_ | refine DL.ud_dor ?_ ?_ | refine DL.ud_dnotV ?_ | refine DL.ud_dandV ?_ ?_ | refine DL.ud_dorV ?_ ?_ | refine DL.ud_dif ?_ ?_ ?_ | refine DL.ud_imD ?_ | refine DL.ud_fl ?_ | refine DL.ud_dixO ?_ ?_ | refine DL.ud_dixX ?_ ?_ | exact DL.ud_ow (by decide) | exact DL.ud_meth0 (by decide) | (refine DL.ud_bind ?_ fun _ => ?_)
    | refine DL.w_op (by with_unfolding_all rfl) ?_ | rfl)

theorem dg_num {n : Nat} {r : List Nat} (h : n < 10 ^ 60) (hr : ∀ c, r.head? = some c → dig c = false) : dg (TL.numL n ++ r) = TL.numL n := by
  by_cases h0 : n = 0
  · subst h0
    rfl
  · have hh : (TL.numL n ++ r).head? ≠ some 48 := by
      obtain ⟨c, t, e, _, h2⟩ := num_cons n
      rw [e]
      intro z
      cases z
      exact h2 h0 rfl
    unfold dg
    rw [if_neg hh, while_app (fun c hc => num_dig c hc) hr, List.take_of_length_le (num_len h)]
theorem val_num {n : Nat} (h : n < 10 ^ 60) : val (TL.numL n) = n := by
  have e := dg_num (n := n) (r := []) h (fun c hc => by cases hc)
  rw [List.append_nil] at e
  have hok : DgOk (TL.numL n) := by
    have := dg_ok (l := TL.numL n) (by rw [e]; exact TL.numL_ne _)
    rwa [e] at this
  have h1 := num_val hok
  have h2 := num_int (val_lt hok)
  rw [h1, num_int h] at h2
  have h2 := Option.some.inj h2
  omega
theorem atom_num {n : Nat} {r : List Nat} : atom (TL.numL n ++ r) = numR (TL.numL n ++ r) := by
  obtain ⟨c, t, e, h1, _⟩ := num_cons n
  rw [e]
  have := dig_lt h1
  show (if c = 84 then _ else if c = 70 then _ else if c = 45 then _ else if dig c = true then _ else _) = _
  rw [if_neg (by omega), if_neg (by omega), if_neg (by omega), if_pos h1]
  rfl
def gd (y : List Nat) : List Nat := 40 :: (TL.numL y.length ++ 58 :: (y ++ [32, 53, 41]))
theorem gd_law {y : List Nat} (hy : y.length ≤ 1000) {res : Option (List Nat)} (hR : LawR (gd y) 0 res) : res = none := by
  have hn : y.length < 10 ^ 60 := Nat.lt_of_le_of_lt hy (by decide)
  have c58 : ∀ c, (58 :: (y ++ [32, 53, 41])).head? = some c → dig c = false := fun c hc => by cases hc; rfl
  obtain ⟨c, t, ec, hc, _⟩ := num_cons y.length
  have hc := dig_lt hc
  have hd : (TL.numL y.length ++ 58 :: (y ++ [32, 53, 41])).head? = some c := by rw [ec]; rfl
  have h1 := inv_opn hR rfl (by omega) (by
    show (TL.numL y.length ++ 58 :: (y ++ [32, 53, 41])).head? ≠ _
    rw [hd]
    intro z
    cases z
    omega)
  have a1 : atom (gd y).tail = .ok (.str (S y)) (TL.numL y.length ++ 58 :: y) [32, 53, 41] := by
    show atom (TL.numL y.length ++ 58 :: (y ++ [32, 53, 41])) = _
    rw [atom_num]
    unfold numR
    rw [dg_num hn c58, val_num hn, List.drop_left]
    show (if y.length > 1000 ∨ (some 58 : Option Nat) ≠ some 58 then _ else if (y ++ [32, 53, 41]).length < y.length then _ else Res.ok (.str (S ((y ++ [32, 53, 41]).take y.length))) (TL.numL y.length ++ 58 :: (y ++ [32, 53, 41]).take y.length) ((y ++ [32, 53, 41]).drop y.length)) = _
    rw [if_neg (fun z => z.elim (fun z => by omega) (fun z => z rfl)), if_neg (by rw [List.length_append]; omega), List.take_left, List.drop_left]
  have h2 := inv_aft h1 (.inr ⟨by show (TL.numL y.length ++ 58 :: (y ++ [32, 53, 41])).head? ≠ _; rw [hd]; intro z; cases z; omega, ⟨_, _, a1⟩, rfl⟩)
  have s1 : strip (0 + 1) [32, 53, 41] = ([32, 53, 41], 1) := rfl
  have a2 : atom [53, 41] = .ok (.int 5) [53] [41] := by
    have e5 : [53] = TL.numL 5 := by decide +kernel
    have d5 : dg (TL.numL 5 ++ [41]) = TL.numL 5 := dg_num (by decide) (fun c hc => by cases hc; rfl)
    have v5 : val (TL.numL 5) = 5 := val_num (by decide)
    rw [show ([53, 41] : List Nat) = [53] ++ [41] from rfl, e5, atom_num]
    unfold numR
    rw [d5, v5, List.drop_left, if_pos (.inr (by show (some 41 : Option Nat) ≠ some 58; decide))]
    rfl
  have s2 : strip (0 + 1) [41] = ([], 0) := rfl
  rcases h2 with ⟨k, _⟩ | ⟨r2, d2, k, k1, k2, _⟩ | ⟨r2, d2, k, k1, k2, k3⟩
  · rw [s1] at k; cases k
  · rw [s1] at k; cases k
    rcases k1 with k1 | k1
    · cases k1
    · exact absurd rfl k1
  · rw [s1] at k; cases k
    have h3 := inv_aft k3 (.inr ⟨by show (some 53 : Option Nat) ≠ some 40; decide, ⟨_, _, a2⟩, rfl⟩)
    rcases h3 with ⟨_, k⟩ | ⟨r2, d2, k, k1, k2, _⟩ | ⟨r2, d2, k, k1, k2, k3⟩
    · exact k
    · rw [s2] at k; cases k
      exact absurd ⟨rfl, rfl⟩ k2
    · rw [s2] at k; cases k
      exact absurd rfl k1
theorem gd_ok {y : List Nat} (h : ok y) : ok (gd y) := fun c hc => by
  rcases List.mem_cons.mp hc with rfl | hc
  · omega
  rcases List.mem_append.mp hc with hc | hc
  · exact num_ok' c hc
  rcases List.mem_cons.mp hc with rfl | hc
  · omega
  rcases List.mem_append.mp hc with hc | hc
  · exact h c hc
  · have : ∀ c ∈ [32, 53, 41], c < 128 := by decide
    exact this c hc
theorem gd_len {y : List Nat} (h : y.length ≤ 1000) : (gd y).length ≤ 2000 := by
  have := num_len (n := y.length) (Nat.lt_of_le_of_lt h (by decide))
  show ((TL.numL y.length ++ 58 :: (y ++ [32, 53, 41])).length) + 1 ≤ _
  rw [List.length_append, List.length_cons, List.length_append]
  show _ + (_ + 3 + 1) + 1 ≤ _
  omega
theorem gd_read {y : List Nat} (h : ok y) (hy : y.length ≤ 1000) : ∃ vs, FI f_read [.str (S (gd y))] (· = .im (.tup vs)) ∧ Wr 12 (.tup vs) (gd y) := by
  have hl := gd_len hy
  obtain ⟨res, hR, k⟩ := read_ok (gd_ok h) (by omega)
  have := gd_law hy hR
  subst this
  obtain ⟨v, h1, h2⟩ := k
  have hleaf : ¬ leafW v (gd y) := by
    rintro (⟨b, _, e⟩ | ⟨k, _, _, e⟩ | ⟨l, _, _, _, e⟩)
    · have e := congrArg List.head? e
      cases b <;> cases e
    · unfold tx at e
      split at e
      · have e := congrArg List.head? e
        cases e
      · obtain ⟨c, t, ec, hc, _⟩ := num_cons k.natAbs
        rw [ec] at e
        have e := congrArg List.head? e
        cases e
        exact absurd hc (by decide)
    · obtain ⟨c, t, ec, hc, _⟩ := num_cons l.length
      rw [ec] at e
      have e := congrArg List.head? e
      cases e
      exact absurd hc (by decide)
  rcases h2 with h2 | ⟨ps, e, h2, h3⟩
  · exact absurd h2 hleaf
  · subst e
    exact ⟨_, h1, .inr ⟨ps, rfl, h2, h3⟩⟩
theorem law_ok (sc : List Int) (hl : sc.length ≤ 63) (hb : ∀ z ∈ sc, z.natAbs < 2 ^ mostBits) : FI f_law [.scr (sc.map D.int)] (· = .im (.bl true)) := by
  refine w_fi ?_
  unfold d_law
  show SW _ [some (false, .im _), none, none, none, none, none, none, none, none, none] _
  refine w_seqM (fun e => ∃ m ns, e = [some (false, .im (.scr (sc.map D.int))), some (false, .im (.lst (ns.map D.int))), none, none, none, none, none, none, none, none] ∧ Sm m ns ∧ 16 ≤ m ∧ m ≤ 300) ?_ ?_
  · trivial
    refine w_call (ds := [.scr _, .int 16, .int 1]) (tape_ok sc hl) rfl ?_
    rintro v ⟨m, ns, rfl, hs, h16, hm⟩
    dsimp only [rvF]
    trivial
    exact ⟨m, ns, rfl, hs, h16, hm⟩
  rintro e ⟨m, ns, rfl, hs, h16, hm⟩
  refine w_seqM (fun e => ∃ x, e = [some (false, .im (.scr (sc.map D.int))), some (false, .im (.lst (ns.map D.int))), some (false, .im (.str (S x))), none, none, none, none, none, none, none] ∧ ok x ∧ x.length ≤ 500000) ?_ ?_
  · trivial
    refine w_call (ds := [.scr _, .lst _]) (drawn_ok (.inl rfl) hb hs h16 hm) rfl ?_
    rintro v ⟨x, rfl, h1, h2⟩
    dsimp only [rvF]
    trivial
    exact ⟨x, rfl, h1, h2⟩
  rintro e ⟨x, rfl, ox, lx⟩
  obtain ⟨res, hR, hread⟩ := read_ok ox (by omega)
  refine w_seqM (fun e => e = [some (false, .im (.scr (sc.map D.int))), some (false, .im (.lst (ns.map D.int))), some (false, .im (.str (S x))), some (false, .im (.int (ftD x res))), none, none, none, none, none, none]) ?_ ?_
  · trivial
    refine w_callI (ds := [.str _]) (fault_ok ox (by omega) hR) rfl ?_
    trivial
  rintro e rfl
  refine w_seqM (fun e => e = [some (false, .im (.scr (sc.map D.int))), some (false, .im (.lst (ns.map D.int))), some (false, .im (.str (S x))), some (false, .im (.int (ftD x res))), some (false, .im .non), none, none, none, none, none]) (by trivial) ?_
  rintro e rfl
  refine w_seqM (fun e => e = [some (false, .im (.scr (sc.map D.int))), some (false, .im (.lst (ns.map D.int))), some (false, .im (.str (S x))), some (false, .im (.int (ftD x res))), some (false, .im .non), some (false, .im .non), none, none, none, none]) (by trivial) ?_
  rintro e rfl
  refine w_seqM (fun e => e = [some (false, .im (.scr (sc.map D.int))), some (false, .im (.lst (ns.map D.int))), some (false, .im (.str (S x))), some (false, .im (.int (ftD x res))), some (false, .im .non), some (false, .im .non), some (false, .im (.bl false)), none, none, none]) (by trivial) ?_
  rintro e rfl
  have tail : ∀ (s4 s5 s6 : O), SW (sseq (sset 8 (imR (dbin (dbin (dbin (dbin (dpure (.str "(")) (dbind (dconsV (dbind (dconsV (vw (dvar 2)) (dpure [])) fun vs => dlift (lenD vs)) (dpure [])) fun vs => dlift (strD vs)) addD) (dpure (.str ":")) addD) (frz (dvar 2)) addD) (dpure (.str " 5)")) addD))) (sseq (sif (dtB (dcmp (dbind (dconsV (vw (dvar 2)) (dpure [])) fun vs => dlift (lenD vs)) (dpure (.int 1000)) gtD)) (sset 8 (imR (dpure (.str "(0: 5)")))) snext) (sseq (sset 9 (imR (frz (dbind (darcons (imR (frz (dvar 8))) (dpure [])) fun as => dfnA 1 (f_read) as)))) (srt (imR (dandV (dbind (dconsV (vw (dvar 9)) (dconsV (dpure (.ty "tuple")) (dpure []))) fun vs => dlift (isiD vs)) (dcmp (vw (dbind (darcons (imR (frz (dvar 9))) (dpure [])) fun as => dfnA 1 (f__law_written 20) as)) (vw (dvar 8)) eqD))))))) [some (false, .im (.scr (sc.map D.int))), some (false, .im (.lst (ns.map D.int))), some (false, .im (.str (S x))), some (false, .im (.int (ftD x res))), some (false, s4), some (false, s5), some (false, s6), none, none, none] ⟨fun e => [D.scr (sc.map D.int)].length ≤ e.length ∧ FRv.im .non = FRv.im (D.bl true), fun r e => outI [D.scr (sc.map D.int)].length (fun z => z = FRv.im (D.bl true)) r e, fun _ => False, fun _ => False⟩ := by
    intro s4 s5 s6
    refine w_seqM (fun e => e = [some (false, .im (.scr (sc.map D.int))), some (false, .im (.lst (ns.map D.int))), some (false, .im (.str (S x))), some (false, .im (.int (ftD x res))), some (false, s4), some (false, s5), some (false, s6), none, some (false, .im (.str (S (gd x)))), none]) ?_ ?_
    · trivial
      refine op_lenS (by omega) ?_
      trivial
      refine op_strI (by omega) ?_
      rw [tx_nat]
      have nl := num_len (n := x.length) (Nat.lt_of_le_of_lt lx (by decide))
      trivial
      refine op_catZ (l := [40]) (by decide +kernel) rfl (by show 1 + _ ≤ _; omega) ?_
      trivial
      refine op_catZ (m := [58]) rfl (by decide +kernel) (by rw [List.length_append]; show 1 + _ + 1 ≤ _; omega) ?_
      trivial
      refine op_cat (by rw [List.length_append, List.length_append]; show 1 + _ + 1 + _ ≤ _; omega) ?_
      trivial
      refine op_catZ (m := [32, 53, 41]) rfl (by decide +kernel) (by rw [List.length_append, List.length_append, List.length_append]; show 1 + _ + 1 + _ + 3 ≤ _; omega) ?_
      trivial
      rw [show [40] ++ TL.numL x.length ++ [58] ++ x ++ [32, 53, 41] = gd x by unfold gd; simp]
    rintro e rfl
    refine w_seqM (fun e => ∃ y, e = [some (false, .im (.scr (sc.map D.int))), some (false, .im (.lst (ns.map D.int))), some (false, .im (.str (S x))), some (false, .im (.int (ftD x res))), some (false, s4), some (false, s5), some (false, s6), none, some (false, .im (.str (S (gd y)))), none] ∧ ok y ∧ y.length ≤ 1000) ?_ ?_
    · trivial
      refine op_lenS (by omega) ?_
      trivial
      refine br_dec (fun h => ?_) (fun h => ?_)
      · rw [show Str.ofString "(0: 5)" = S (gd []) by decide +kernel]
        trivial
        exact ⟨[], rfl, fun c hc => (by cases hc), Nat.zero_le _⟩
      · trivial
        exact ⟨x, rfl, ox, by omega⟩
    rintro e ⟨y, rfl, oy, ly⟩
    obtain ⟨vs, hv, hw⟩ := gd_read oy ly
    have hg := gd_len ly
    trivial
    refine w_callI (ds := [.str _]) hv rfl ?_
    trivial
    refine w_callI (ds := [.tup _]) (_law_written_ok 12 hw (by omega) 20 (by omega)) rfl ?_
    trivial
    refine op_eqS (gd_ok oy) (gd_ok oy) ?_
    trivial
    rw [decide_eq_true rfl]
  cases res with
  | none =>
    obtain ⟨v, hv, hw⟩ := hread
    refine w_seqM (fun e => e = [some (false, .im (.scr (sc.map D.int))), some (false, .im (.lst (ns.map D.int))), some (false, .im (.str (S x))), some (false, .im (.int (ftD x none))), some (false, .im .non), some (false, .im v), some (false, .im (.bl false)), none, none, none]) ?_ ?_
    · refine w_try ?_
      trivial
      refine w_callI (ds := [.str _]) hv rfl ?_
      trivial
    rintro e rfl
    refine w_seqM (fun e => e = [some (false, .im (.scr (sc.map D.int))), some (false, .im (.lst (ns.map D.int))), some (false, .im (.str (S x))), some (false, .im (.int (ftD x none))), some (false, .im .non), some (false, .im v), some (false, .im (.bl false)), none, none, none]) ?_ ?_
    · trivial
      refine w_callI (ds := [_]) (_law_written_ok 12 hw (by omega) 20 (by omega)) rfl ?_
      trivial
      refine op_neS ox ox ?_
      refine br_dec (fun h => absurd rfl h) (fun _ => ?_)
      trivial
    rintro e rfl
    refine w_seqM (fun e => e = [some (false, .im (.scr (sc.map D.int))), some (false, .im (.lst (ns.map D.int))), some (false, .im (.str (S x))), some (false, .im (.int (ftD x none))), some (false, .im .non), some (false, .im v), some (false, .im (.bl false)), none, none, none]) (by trivial) ?_
    rintro e rfl
    refine w_seqM (fun e => e = [some (false, .im (.scr (sc.map D.int))), some (false, .im (.lst (ns.map D.int))), some (false, .im (.str (S x))), some (false, .im (.int (ftD x none))), some (false, .im .non), some (false, .im v), some (false, .im (.bl false)), none, none, none]) (by trivial) ?_
    rintro e rfl
    exact tail _ _ _
  | some r =>
    have f0 : (0 : Int) ≤ pl x r := Int.natCast_nonneg _
    refine w_seqM (fun e => e = [some (false, .im (.scr (sc.map D.int))), some (false, .im (.lst (ns.map D.int))), some (false, .im (.str (S x))), some (false, .im (.int (pl x r))), some (false, .im (.int (pl x r))), some (false, .im .non), some (false, .im (.bl true)), none, none, none]) ?_ ?_
    · refine w_tryX ?_
      refine se_set (ee_imR (ee_frz (ee_bindR ?_)))
      trivial
      refine ee_call (ds := [.str _]) (fe_imp hread fun z hz => ?_) rfl
      subst hz
      refine w_hitAs rfl rfl rfl (us_uni (by trivial) rfl) ?_
      trivial
      refine w_xf rfl rfl ?_
      trivial
      exact ⟨rfl, rfl⟩
    rintro e rfl
    refine w_seqM (fun e => e = [some (false, .im (.scr (sc.map D.int))), some (false, .im (.lst (ns.map D.int))), some (false, .im (.str (S x))), some (false, .im (.int (pl x r))), some (false, .im (.int (pl x r))), some (false, .im .non), some (false, .im (.bl true)), none, none, none]) ?_ ?_
    · trivial
    rintro e rfl
    refine w_seqM (fun e => e = [some (false, .im (.scr (sc.map D.int))), some (false, .im (.lst (ns.map D.int))), some (false, .im (.str (S x))), some (false, .im (.int (pl x r))), some (false, .im (.int (pl x r))), some (false, .im .non), some (false, .im (.bl true)), none, none, none]) ?_ ?_
    · trivial
      refine br_dec (fun _ => ?_) (fun h => by omega)
      trivial
    rintro e rfl
    refine w_seqM (fun e => e = [some (false, .im (.scr (sc.map D.int))), some (false, .im (.lst (ns.map D.int))), some (false, .im (.str (S x))), some (false, .im (.int (pl x r))), some (false, .im (.int (pl x r))), some (false, .im .non), some (false, .im (.bl true)), none, none, none]) ?_ ?_
    · trivial
      refine w_callI (ds := [.str _]) (base_bad hread) rfl ?_
      trivial
    rintro e rfl
    exact tail _ _ _
theorem law_true : ∀ A : Unit, True → ∀ ns : List Int, ns.length ≤ 63 → (∀ z ∈ ns, z.natAbs < 2 ^ mostBits) → ∃ m os, fA A [.im (.scr (ns.map D.int))] = some (.ok m os (.im (.bl true))) := fun A _ ns hl hb => by
  obtain ⟨m, os, r, h, h1, h2⟩ := law_ok ns hl hb
  have h2 : r = .im (.bl true) := h2
  subst h2
  exact ⟨m, os, h⟩
end K73

section
open PySem PySem.W PyProof.Rows
set_option maxRecDepth 100000 in
set_option maxHeartbeats 0 in
theorem PySem.Challenge.cw_keptcoin_k73_strict_reading_holds : PySem.Challenge.rw_keptcoin_k73_strict_reading.Holds := by
  refine K73H.top ?_
  k_fill
  refine DL.walkDB (l := PySem.Challenge.rw_keptcoin_k73_strict_reading) (x := "_law_script") (f := K73.fA) (G := fun _ => True) (k := 87) rfl rfl ⟨rfl, by decide, by decide⟩ (fun w h Y => PySem.W.kIn_of Y) K73.law_true ?F
  case F =>
    intro w mg fa h KX G hmg
    refine' K73.all_mk KX G hmg ?h0 ?h1 ?h2 ?h3 ?h4 ?h5 ?h6 ?h7 ?h8 ?h9 ?h10 ?h11 ?h12 ?h13 ?h14 ?h15 ?h16 ?h17 ?h18 ?h19 ?h20 ?h21 ?h22 ?h23 ?h24 ?h25 ?h26 ?h27 ?h28 ?h29 ?h30 ?h31 ?h32 ?h33 ?h34 ?h35 ?h36 ?h37 ?h38 ?h39 ?h40 ?h41 ?h42 ?h43 ?h44 ?h45 ?h46 ?h47 ?h48 ?h49 ?h50 ?h51 ?h52 ?h53 ?h54 ?h55 ?h56 ?h57 ?h58 ?h59 ?h60 ?h61 ?h62 ?h63 ?h64 ?h65 ?h66 ?h67 ?h68 ?h69 ?h70 ?h71 ?h72 ?h73 ?h74 ?h75 ?h76 ?h77 ?h78 ?h79 ?h80 ?h81 ?h82 ?h83 ?h84 ?h85 ?h86 ?h87 ?h88 ?h89 ?h90 ?h91 ?h92 ?h93 ?h94 ?h95 ?h96 ?h97 ?h98 ?h99 ?h100 ?h101 ?h102 ?h103 ?h104 ?h105 ?h106 ?h107 ?h108 ?h109 ?h110 ?h111 ?h112 ?h113 ?h114 ?h115 ?h116 ?h117 ?h118 ?h119 ?h120 ?h121 ?h122 ?h123 ?h124 ?h125 ?h126 ?h127 ?h128 ?h129 ?h130 ?h131 ?h132 ?h133 ?h134 ?h135 ?h136 ?h137
    (case h0 => k_is)
    (case h1 => k_is)
    (case h2 => k_is)
    (case h3 => k_is)
    (case h4 => k_is)
    (case h5 => k_is)
    (case h6 => k_is)
    (case h7 => k_is)
    (case h8 => k_is)
    (case h9 => k_is)
    (case h10 => k_is)
    (case h11 => k_is)
    (case h12 => k_is)
    (case h13 => k_is)
    (case h14 => k_is)
    (case h15 => k_is)
    (case h16 => k_is)
    (case h17 => k_is)
    (case h18 => k_is)
    (case h19 => k_is)
    (case h20 => k_is)
    (case h21 => k_is)
    (case h22 => k_is)
    (case h23 => k_is)
    (case h24 => k_is)
    (case h25 => first | k_is | kit_is)
    (case h26 => first | k_is | kit_is)
    (case h27 => first | k_is | kit_is)
    (case h28 => first | k_is | kit_is)
    (case h29 => k_is)
    (case h30 => k_is)
    (case h31 => k_is)
    (case h32 => k_is)
    (case h33 => k_is)
    (case h34 => k_is)
    (case h35 => k_is)
    (case h36 => k_is)
    (case h37 => k_is)
    (case h38 => k_is)
    (case h39 => k_is)
    (case h40 => k_is)
    (case h41 => k_is)
    (case h42 => k_is)
    (case h43 => k_is)
    (case h44 => k_is)
    (case h45 => k_is)
    (case h46 => k_is)
    (case h47 => k_is)
    (case h48 => k_is)
    (case h49 => k_is)
    (case h50 => k_is)
    (case h51 => k_is)
    (case h52 => k_is)
    (case h53 => k_is)
    (case h54 => k_is)
    (case h55 => k_is)
    (case h56 => k_is)
    (case h57 => k_is)
    (case h58 => k_is)
    (case h59 => k_is)
    (case h60 => k_is)
    (case h61 => k_is)
    (case h62 => k_is)
    (case h63 => k_is)
    (case h64 => k_is)
    (case h65 => k_is)
    (case h66 => k_is)
    (case h67 => k_is)
    (case h68 => k_is)
    (case h69 => k_is)
    (case h70 => k_is)
    (case h71 => k_is)
    (case h72 => k_is)
    (case h73 => k_is)
    (case h74 => k_is)
    (case h75 => k_is)
    (case h76 => k_is)
    (case h77 => k_is)
    (case h78 => k_is)
    (case h79 => k_is)
    (case h80 => k_is)
    (case h81 => k_is)
    (case h82 => k_is)
    (case h83 => k_is)
    (case h84 => k_is)
    (case h85 => k_is)
    (case h86 => k_is)
    (case h87 => k_is)
    (case h88 => k_is)
    (case h89 => k_is)
    (case h90 => k_is)
    (case h91 => k_is)
    (case h92 => k_is)
    (case h93 => k_is)
    (case h94 => k_is)
    (case h95 => k_is)
    (case h96 => k_is)
    (case h97 => k_is)
    (case h98 => k_is)
    (case h99 => k_is)
    (case h100 => k_is)
    (case h101 => k_is)
    (case h102 => k_is)
    (case h103 => k_is)
    (case h104 => k_is)
    (case h105 => k_is)
    (case h106 => k_is)
    (case h107 => k_is)
    (case h108 => k_is)
    (case h109 => k_is)
    (case h110 => k_is)
    (case h111 => k_is)
    (case h112 => k_is)
    (case h113 => k_is)
    (case h114 => k_is)
    (case h115 => k_is)
    (case h116 => k_is)
    (case h117 => k_is)
    (case h118 => k_is)
    (case h119 => k_is)
    (case h120 => k_is)
    (case h121 => k_is)
    (case h122 => k_is)
    (case h123 => k_is)
    (case h124 => k_is)
    (case h125 => k_is)
    (case h126 => k_is)
    (case h127 => k_is)
    (case h128 => k_is)
    (case h129 => k_is)
    (case h130 => k_is)
    (case h131 => k_is)
    (case h132 => k_is)
    (case h133 => k_is)
    (case h134 => k_is)
    (case h135 => k_is)
    (case h136 => k_is)
    (case h137 => k_is)
end


